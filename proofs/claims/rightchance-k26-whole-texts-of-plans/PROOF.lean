import PyProof.Rows.All
import Wide.All
import OpenK.AllK
import Wide.FinOn
import KE.KStateDown
import KE.IntTextText
import HandS.ForMost
import HandS.ForExc
import HandS.More
import HandS.Codes
import HandS.Defaults
import HandS.Deep
import HandS.ExcInit
import HandS.ExcSuper
import HandS.ExcField
import HandS.ExcIs
import HandS.IsInst
import HandS.NoneIn
import HandS.StrMore
import HandS.SetFor
import HandS.SortOrd
import HandS.CallSlots
import HandS.Head0
import HandS.Head1
import HandS.Head2
import HandS.HeadEnd
import HandS.HeadHook1
import HandS.HeadHook2
import HandS.HeadHook3
import HandS.HeadHook4
import KE.KExcSuper
import PySem.Challenge.RW_rightchance_k26_whole_texts_of_plans
import KE.GoesMore
import KE.GoesEnum
import HandS.Walk
import HandS.Text
import KE.KExcIs
import KE.SortData
import HandS.SortRule
set_option Elab.async false
section
set_option linter.all false
set_option maxRecDepth 100000
set_option maxHeartbeats 0
namespace K26
open PySem PySem.Spec PyProof.Rows L2
/-! ### the text by places -/
def top (i : Nat) : Stmt := PySem.Challenge.pw_rightchance_k26_whole_texts_of_plans.main.body.getD i (.Pass ⟨0, 0, 0, 0⟩)

abbrev s_run_end : Stmt := top 9
abbrev s_integer_at : Stmt := top 10
abbrev s_token_at : Stmt := top 11
abbrev s_tokens_of : Stmt := top 12
abbrev s_read_scan : Stmt := top 15
abbrev s_read_node : Stmt := top 16
abbrev s_read_plan : Stmt := top 17
abbrev s_l_draws : Stmt := top 19
abbrev s_l_take : Stmt := top 20
abbrev s_l_pick : Stmt := top 21
abbrev s_l_same : Stmt := top 22
abbrev s_l_pool : Stmt := top 23
abbrev s_l_values : Stmt := top 24
abbrev s_l_value : Stmt := top 25
abbrev s_l_world : Stmt := top 26
abbrev s_l_term : Stmt := top 27
abbrev s_l_atom : Stmt := top 28
abbrev s_l_simple : Stmt := top 29
abbrev s_l_is_word : Stmt := top 30
abbrev s_l_great : Stmt := top 31
abbrev s_l_text_world : Stmt := top 32
abbrev s_l_value_text : Stmt := top 33
abbrev s_l_term_text : Stmt := top 34
abbrev s_l_between : Stmt := top 35
abbrev s_l_atom_texts : Stmt := top 36
abbrev s_l_plan_texts : Stmt := top 37
abbrev s_l_any_plan : Stmt := top 38
abbrev s_l_more_atoms : Stmt := top 39
abbrev s_l_spoiled : Stmt := top 40
abbrev s_l_near : Stmt := top 41
abbrev s_l_menu : Stmt := top 42
abbrev s_l_run : Stmt := top 43
abbrev s_l_token_end : Stmt := top 44
abbrev s_l_tokens : Stmt := top 45
abbrev s_l_loose : Stmt := top 46
abbrev s_l_plan_result : Stmt := top 47
abbrev s_l_plan_stop : Stmt := top 48
abbrev s_l_plan_of : Stmt := top 49
abbrev s_l_read_plan : Stmt := top 50
abbrev s_l_classes : Stmt := top 51
abbrev s_law : Stmt := top 52
abbrev s_BadText_init : Stmt := inClass (top 4) 0
abbrev s_Line_init : Stmt := inClass (top 13) 0
abbrev s_Line_kind : Stmt := inClass (top 13) 1
abbrev s_Line_value : Stmt := inClass (top 13) 2
abbrev s_Line_kind_behind : Stmt := inClass (top 13) 3
abbrev s_Line_refuse : Stmt := inClass (top 13) 4
abbrev s_Line_take : Stmt := inClass (top 13) 5
abbrev s_Line_term : Stmt := inClass (top 13) 6
abbrev s_Line_take_term : Stmt := inClass (top 13) 7
/-! ### the head: facts by names -/
def d_run_end : He.DefD := ⟨("run_end", none), "run_end", "run_end", defArgs s_run_end, defBody s_run_end, defScope s_run_end, [], []⟩
def d_integer_at : He.DefD := ⟨("integer_at", none), "integer_at", "integer_at", defArgs s_integer_at, defBody s_integer_at, defScope s_integer_at, [], []⟩
def d_token_at : He.DefD := ⟨("token_at", none), "token_at", "token_at", defArgs s_token_at, defBody s_token_at, defScope s_token_at, [], []⟩
def d_tokens_of : He.DefD := ⟨("tokens_of", none), "tokens_of", "tokens_of", defArgs s_tokens_of, defBody s_tokens_of, defScope s_tokens_of, [], []⟩
def d_read_scan : He.DefD := ⟨("read_scan", none), "read_scan", "read_scan", defArgs s_read_scan, defBody s_read_scan, defScope s_read_scan, [], []⟩
def d_read_node : He.DefD := ⟨("read_node", none), "read_node", "read_node", defArgs s_read_node, defBody s_read_node, defScope s_read_node, [], []⟩
def d_read_plan : He.DefD := ⟨("read_plan", none), "read_plan", "read_plan", defArgs s_read_plan, defBody s_read_plan, defScope s_read_plan, [], []⟩
def d_l_draws : He.DefD := ⟨("_law_draws", none), "_law_draws", "_law_draws", defArgs s_l_draws, defBody s_l_draws, defScope s_l_draws, [], []⟩
def d_l_take : He.DefD := ⟨("_law_take", none), "_law_take", "_law_take", defArgs s_l_take, defBody s_l_take, defScope s_l_take, [], []⟩
def d_l_pick : He.DefD := ⟨("_law_pick", none), "_law_pick", "_law_pick", defArgs s_l_pick, defBody s_l_pick, defScope s_l_pick, [], []⟩
def d_l_same : He.DefD := ⟨("_law_same", none), "_law_same", "_law_same", defArgs s_l_same, defBody s_l_same, defScope s_l_same, [], []⟩
def d_l_pool : He.DefD := ⟨("_law_pool", none), "_law_pool", "_law_pool", defArgs s_l_pool, defBody s_l_pool, defScope s_l_pool, [], []⟩
def d_l_values : He.DefD := ⟨("_law_values", none), "_law_values", "_law_values", defArgs s_l_values, defBody s_l_values, defScope s_l_values, [], []⟩
def d_l_value : He.DefD := ⟨("_law_value", none), "_law_value", "_law_value", defArgs s_l_value, defBody s_l_value, defScope s_l_value, [], []⟩
def d_l_world : He.DefD := ⟨("_law_world", none), "_law_world", "_law_world", defArgs s_l_world, defBody s_l_world, defScope s_l_world, [], []⟩
def d_l_term : He.DefD := ⟨("_law_term", none), "_law_term", "_law_term", defArgs s_l_term, defBody s_l_term, defScope s_l_term, [], []⟩
def d_l_atom : He.DefD := ⟨("_law_atom", none), "_law_atom", "_law_atom", defArgs s_l_atom, defBody s_l_atom, defScope s_l_atom, [], []⟩
def d_l_simple : He.DefD := ⟨("_law_simple", none), "_law_simple", "_law_simple", defArgs s_l_simple, defBody s_l_simple, defScope s_l_simple, [], []⟩
def d_l_is_word : He.DefD := ⟨("_law_is_word", none), "_law_is_word", "_law_is_word", defArgs s_l_is_word, defBody s_l_is_word, defScope s_l_is_word, [], []⟩
def d_l_great : He.DefD := ⟨("_law_great", none), "_law_great", "_law_great", defArgs s_l_great, defBody s_l_great, defScope s_l_great, [], []⟩
def d_l_text_world : He.DefD := ⟨("_law_text_world", none), "_law_text_world", "_law_text_world", defArgs s_l_text_world, defBody s_l_text_world, defScope s_l_text_world, [], []⟩
def d_l_value_text : He.DefD := ⟨("_law_value_text", none), "_law_value_text", "_law_value_text", defArgs s_l_value_text, defBody s_l_value_text, defScope s_l_value_text, [], []⟩
def d_l_term_text : He.DefD := ⟨("_law_term_text", none), "_law_term_text", "_law_term_text", defArgs s_l_term_text, defBody s_l_term_text, defScope s_l_term_text, [], []⟩
def d_l_between : He.DefD := ⟨("_law_between", none), "_law_between", "_law_between", defArgs s_l_between, defBody s_l_between, defScope s_l_between, [], []⟩
def d_l_atom_texts : He.DefD := ⟨("_law_atom_texts", none), "_law_atom_texts", "_law_atom_texts", defArgs s_l_atom_texts, defBody s_l_atom_texts, defScope s_l_atom_texts, [], []⟩
def d_l_plan_texts : He.DefD := ⟨("_law_plan_texts", none), "_law_plan_texts", "_law_plan_texts", defArgs s_l_plan_texts, defBody s_l_plan_texts, defScope s_l_plan_texts, [], []⟩
def d_l_any_plan : He.DefD := ⟨("_law_any_plan", none), "_law_any_plan", "_law_any_plan", defArgs s_l_any_plan, defBody s_l_any_plan, defScope s_l_any_plan, [], []⟩
def d_l_more_atoms : He.DefD := ⟨("_law_more_atoms", none), "_law_more_atoms", "_law_more_atoms", defArgs s_l_more_atoms, defBody s_l_more_atoms, defScope s_l_more_atoms, [], []⟩
def d_l_spoiled : He.DefD := ⟨("_law_spoiled", none), "_law_spoiled", "_law_spoiled", defArgs s_l_spoiled, defBody s_l_spoiled, defScope s_l_spoiled, [], []⟩
def d_l_near : He.DefD := ⟨("_law_near", none), "_law_near", "_law_near", defArgs s_l_near, defBody s_l_near, defScope s_l_near, [], []⟩
def d_l_menu : He.DefD := ⟨("_law_menu", none), "_law_menu", "_law_menu", defArgs s_l_menu, defBody s_l_menu, defScope s_l_menu, [], []⟩
def d_l_run : He.DefD := ⟨("_law_run", none), "_law_run", "_law_run", defArgs s_l_run, defBody s_l_run, defScope s_l_run, [], []⟩
def d_l_token_end : He.DefD := ⟨("_law_token_end", none), "_law_token_end", "_law_token_end", defArgs s_l_token_end, defBody s_l_token_end, defScope s_l_token_end, [], []⟩
def d_l_tokens : He.DefD := ⟨("_law_tokens", none), "_law_tokens", "_law_tokens", defArgs s_l_tokens, defBody s_l_tokens, defScope s_l_tokens, [], []⟩
def d_l_loose : He.DefD := ⟨("_law_loose", none), "_law_loose", "_law_loose", defArgs s_l_loose, defBody s_l_loose, defScope s_l_loose, [], []⟩
def d_l_plan_result : He.DefD := ⟨("_law_plan_result", none), "_law_plan_result", "_law_plan_result", defArgs s_l_plan_result, defBody s_l_plan_result, defScope s_l_plan_result, [], []⟩
def d_l_plan_stop : He.DefD := ⟨("_law_plan_stop", none), "_law_plan_stop", "_law_plan_stop", defArgs s_l_plan_stop, defBody s_l_plan_stop, defScope s_l_plan_stop, [], []⟩
def d_l_plan_of : He.DefD := ⟨("_law_plan_of", none), "_law_plan_of", "_law_plan_of", defArgs s_l_plan_of, defBody s_l_plan_of, defScope s_l_plan_of, [], []⟩
def d_l_read_plan : He.DefD := ⟨("_law_read_plan", none), "_law_read_plan", "_law_read_plan", defArgs s_l_read_plan, defBody s_l_read_plan, defScope s_l_read_plan, [], []⟩
def d_l_classes : He.DefD := ⟨("_law_classes", none), "_law_classes", "_law_classes", defArgs s_l_classes, defBody s_l_classes, defScope s_l_classes, [], []⟩
def d_law : He.DefD := ⟨("law", none), "law", "law", defArgs s_law, defBody s_law, defScope s_law, [], []⟩
def d_Line_init : He.DefD := ⟨("Line", some "__init__"), "__init__", "Line.__init__", defArgs s_Line_init, defBody s_Line_init, defScope s_Line_init, [], []⟩
def d_Line_kind : He.DefD := ⟨("Line", some "kind"), "kind", "Line.kind", defArgs s_Line_kind, defBody s_Line_kind, defScope s_Line_kind, [], []⟩
def d_Line_value : He.DefD := ⟨("Line", some "value"), "value", "Line.value", defArgs s_Line_value, defBody s_Line_value, defScope s_Line_value, [], []⟩
def d_Line_refuse : He.DefD := ⟨("Line", some "refuse"), "refuse", "Line.refuse", defArgs s_Line_refuse, defBody s_Line_refuse, defScope s_Line_refuse, [], []⟩
def d_Line_take : He.DefD := ⟨("Line", some "take"), "take", "Line.take", defArgs s_Line_take, defBody s_Line_take, defScope s_Line_take, [], []⟩
def d_Line_term : He.DefD := ⟨("Line", some "term"), "term", "Line.term", defArgs s_Line_term, defBody s_Line_term, defScope s_Line_term, [], []⟩
def d_Line_take_term : He.DefD := ⟨("Line", some "take_term"), "take_term", "Line.take_term", defArgs s_Line_take_term, defBody s_Line_take_term, defScope s_Line_take_term, [], []⟩
def fn : List He.DefD := [d_run_end, d_integer_at, d_token_at, d_tokens_of, d_read_scan, d_read_node, d_read_plan, d_l_draws, d_l_take, d_l_pick, d_l_same, d_l_pool, d_l_values, d_l_value, d_l_world, d_l_term, d_l_atom, d_l_simple, d_l_is_word, d_l_great, d_l_text_world, d_l_value_text, d_l_term_text, d_l_between, d_l_atom_texts, d_l_plan_texts, d_l_any_plan, d_l_more_atoms, d_l_spoiled, d_l_near, d_l_menu, d_l_run, d_l_token_end, d_l_tokens, d_l_loose, d_l_plan_result, d_l_plan_stop, d_l_plan_of, d_l_read_plan, d_l_classes, d_law, d_Line_init, d_Line_kind, d_Line_value, d_Line_refuse, d_Line_take, d_Line_term, d_Line_take_term]
def fa : List He.Fa := [.glo "run_end", .glo "integer_at", .glo "token_at", .glo "tokens_of", .glo "read_scan", .glo "read_node", .glo "read_plan", .glo "_law_draws", .glo "_law_take", .glo "_law_pick", .glo "_law_same", .glo "_law_pool", .glo "_law_values", .glo "_law_value", .glo "_law_world", .glo "_law_term", .glo "_law_atom", .glo "_law_simple", .glo "_law_is_word", .glo "_law_great", .glo "_law_text_world", .glo "_law_value_text", .glo "_law_term_text", .glo "_law_between", .glo "_law_atom_texts", .glo "_law_plan_texts", .glo "_law_any_plan", .glo "_law_more_atoms", .glo "_law_spoiled", .glo "_law_near", .glo "_law_menu", .glo "_law_run", .glo "_law_token_end", .glo "_law_tokens", .glo "_law_loose", .glo "_law_plan_result", .glo "_law_plan_stop", .glo "_law_plan_of", .glo "_law_read_plan", .glo "_law_classes", .glo "law", .glo "ChanceError", .glo "DoubleFact", .glo "BadText", .glo "Line", .free "len", .free "int", .free "str", .free "range", .free "list", .free "tuple", .free "sorted", .free "isinstance", .free "enumerate", .free "ValueError", .free "super", .free "bool", .str "LETTERS" "abcdefghijklmnopqrstuvwxyz", .str "DIGITS" "0123456789", .str "SIGNS" "()[],;/*!", .cls "Line", .noat "Line" "number", .noat "Line" "tokens", .noat "Line" "many", .meth "Line" "kind", .meth "Line" "value", .meth "Line" "refuse", .meth "Line" "take", .meth "Line" "term", .meth "Line" "take_term", .mkr "Line", .exm "BadText" "BadText" true, .keep "BadText"]
def loose0 : List Str := ["_wall", "ChanceError", "DoubleFact", "BadText", "LETTERS", "DIGITS", "SIGNS", "run_end", "integer_at", "token_at", "tokens_of", "Line", "read_scan", "read_node", "read_plan", "_law_draws", "_law_take", "_law_pick", "_law_same", "_law_pool", "_law_values", "_law_value", "_law_world", "_law_term", "_law_atom", "_law_simple", "_law_is_word", "_law_great", "_law_text_world", "_law_value_text"]
def loose1 : List Str := ["_law_term_text", "_law_between", "_law_atom_texts", "_law_plan_texts", "_law_any_plan", "_law_more_atoms", "_law_spoiled", "_law_near", "_law_menu", "_law_run", "_law_token_end", "_law_tokens", "_law_loose", "_law_plan_result", "_law_plan_stop", "_law_plan_of", "_law_read_plan", "_law_classes"]
def loose : List Str := loose0 ++ loose1
end K26

end
section
set_option linter.all false
/-! K26, part 1: tokens and the lexer over code lists. -/
namespace K26
open PySem.NumText

/-- tokens: a sign, a word, a quoted word, an integer, a place where no token begins, the end -/
inductive Tk where
  | sg (c : Nat) | wd (w : List Nat) | qd (w : List Nat) | it (i : Int) | bad | fin
  deriving DecidableEq

def isL (c : Nat) : Bool := decide (97 ≤ c) && decide (c ≤ 122)
def isD (c : Nat) : Bool := decide (48 ≤ c) && decide (c ≤ 57)
def signs : List Nat := [40, 41, 91, 93, 44, 59, 47, 42, 33]
def isS (c : Nat) : Bool := decide (c ∈ signs)
theorem isL_iff {c : Nat} : isL c = true ↔ 97 ≤ c ∧ c ≤ 122 := by simp [isL]
theorem isD_iff {c : Nat} : isD c = true ↔ 48 ≤ c ∧ c ≤ 57 := by simp [isD]
theorem isS_iff {c : Nat} : isS c = true ↔ c = 40 ∨ c = 41 ∨ c = 91 ∨ c = 93 ∨ c = 44 ∨ c = 59 ∨ c = 47 ∨ c = 42 ∨ c = 33 := by simp [isS, signs]

/-- the digits of a natural number, the text of an integer -/
def natL (n : Nat) : List Nat := (Nat.toDigits 10 n).map Char.toNat
def intL (i : Int) : List Nat := if i < 0 then 45 :: natL i.natAbs else natL i.natAbs

def txt : Tk → List Nat
  | .sg c => [c]
  | .wd w => w
  | .qd w => 34 :: (w ++ [34])
  | .it i => intL i
  | .bad => [32]
  | .fin => []

def isWord (w : List Nat) : Bool := !w.isEmpty && w.all isL
/-- a token as the lexer makes them -/
def Ok : Tk → Prop
  | .sg c => isS c = true
  | .wd w => isWord w = true
  | .qd w => isWord w = true
  | _ => True

theorem run_len (p : Nat → Bool) (l : List Nat) : (l.takeWhile p).length ≤ l.length := by
  induction l with
  | nil => simp
  | cons c r ih =>
    rw [List.takeWhile_cons]
    split
    · simp; exact ih
    · simp
theorem len_pos {α : Type} {l : List α} (h : l ≠ []) : 0 < l.length := by
  cases l with
  | nil => exact absurd rfl h
  | cons _ _ => simp
theorem tw_append_dw (p : Nat → Bool) (l : List Nat) : l.takeWhile p ++ l.drop (l.takeWhile p).length = l := by
  induction l with
  | nil => rfl
  | cons c r ih =>
    rw [List.takeWhile_cons]
    split
    · simp [ih]
    · simp
theorem tw_take (p : Nat → Bool) (l : List Nat) : l.takeWhile p = l.take (l.takeWhile p).length := by
  induction l with
  | nil => rfl
  | cons c r ih =>
    rw [List.takeWhile_cons]
    split
    · simp; exact ih
    · simp
theorem tw_all (p : Nat → Bool) (l : List Nat) : ∀ c ∈ l.takeWhile p, p c = true := by
  induction l with
  | nil => intro c h; simp at h
  | cons c r ih =>
    intro d h
    rw [List.takeWhile_cons] at h
    split at h
    · rcases List.mem_cons.mp h with e | h
      · subst e; assumption
      · exact ih d h
    · simp at h
/-- what stands behind a maximal run -/
theorem tw_next (p : Nat → Bool) (l : List Nat) : ∀ c r, l.drop (l.takeWhile p).length = c :: r → p c = false := by
  induction l with
  | nil => intro c r h; simp at h
  | cons d l ih =>
    intro c r h
    rw [List.takeWhile_cons] at h
    split at h
    · rename_i hp
      simp at h
      exact ih c r h
    · rename_i hp
      simp at h
      rw [← h.1]
      simpa using hp

/-- the value of digits with or without a minus -/
def valL (neg : Bool) (ds : List Nat) : Int := if neg then -((digitsVal ds : Nat) : Int) else ((digitsVal ds : Nat) : Int)

/-- the token that begins at the head of a text, and its length -/
def lexD (neg : Bool) (ds : List Nat) : Option (Tk × Nat) :=
  if ds = [] then none
  else if ds.head? = some 48 ∧ ds.length + (if neg then 1 else 0) > 1 then none else some (.it (valL neg ds), ds.length + (if neg then 1 else 0))
def lexI (c : Nat) (r : List Nat) : Option (Tk × Nat) := lexD (decide (c = 45)) ((if (decide (c = 45)) = true then r else c :: r).takeWhile isD)
def lex (c : Nat) (r : List Nat) : Option (Tk × Nat) :=
  if isS c then some (.sg c, 1)
  else if isL c then some (.wd ((c :: r).takeWhile isL), ((c :: r).takeWhile isL).length)
  else if c = 34 then
    let w := r.takeWhile isL
    if w ≠ [] ∧ (r.drop w.length).head? = some 34 then some (.qd w, w.length + 2) else none
  else lexI c r

theorem lexI_spec {c : Nat} {r : List Nat} {t : Tk} {n : Nat} (h : lexI c r = some (t, n)) :
    1 ≤ n ∧ n ≤ (c :: r).length ∧ ∃ neg ds, neg = decide (c = 45) ∧ ds = (if neg then r else c :: r).takeWhile isD ∧ n = ds.length + (if neg then 1 else 0) ∧ t = .it (valL neg ds) ∧ ds ≠ [] ∧ (ds.head? = some 48 → n = 1) := by
  unfold lexI at h
  have hl : ((if (decide (c = 45)) = true then r else c :: r).takeWhile isD).length ≤ (if (decide (c = 45)) = true then r else c :: r).length := run_len _ _
  have hd : ∃ ds, ds = (if (decide (c = 45)) = true then r else c :: r).takeWhile isD := ⟨_, rfl⟩
  obtain ⟨ds, hd⟩ := hd
  rw [← hd] at h hl
  unfold lexD at h
  by_cases e : ds = []
  · rw [if_pos e] at h; cases h
  · rw [if_neg e] at h
    by_cases hc : ds.head? = some 48 ∧ ds.length + (if (decide (c = 45)) = true then 1 else 0) > 1
    · rw [if_pos hc] at h; cases h
    · rw [if_neg hc, Option.some.injEq, Prod.mk.injEq] at h
      obtain ⟨rfl, rfl⟩ := h
      have h1 := len_pos e
      refine ⟨by omega, ?_, decide (c = 45), ds, rfl, hd, rfl, rfl, e, fun h0 => ?_⟩
      · by_cases hm : c = 45
        · simp [hm] at hl ⊢; exact hl
        · simp [hm] at hl ⊢; exact hl
      · have h2 : ¬ _ > 1 := fun z => hc ⟨h0, z⟩
        omega

theorem lex_len {c : Nat} {r : List Nat} {t : Tk} {n : Nat} (h : lex c r = some (t, n)) : 1 ≤ n ∧ n ≤ (c :: r).length := by
  unfold lex at h
  split at h
  · cases h; simp
  · split at h
    · rename_i hl
      cases h
      refine ⟨?_, run_len _ _⟩
      rw [List.takeWhile_cons, if_pos hl]; simp
    · split at h
      · dsimp only at h
        split at h
        · rename_i hw
          cases h
          refine ⟨by omega, ?_⟩
          have h1 := run_len isL r
          have h2 : (r.drop (r.takeWhile isL).length) ≠ [] := by
            intro z; rw [z] at hw; simp at hw
          have h3 : 0 < (r.drop (r.takeWhile isL).length).length := len_pos h2
          rw [List.length_drop] at h3
          simp; omega
        · cases h
      · have := lexI_spec h
        exact ⟨this.1, this.2.1⟩

theorem digits_of_isD {ds : List Nat} (h : ∀ c ∈ ds, isD c = true) : AllDigits ds := fun c hc => isD_iff.mp (h c hc)
/-- canonical digits are the text of their value -/
theorem natL_val {ds : List Nat} (h : AllDigits ds) (hne : ds ≠ []) (h0 : ds.head? = some 48 → ds.length = 1) : natL (digitsVal ds) = ds := by
  unfold natL
  have hc : ds.length - 1 = 0 ∨ ∃ c r, ds = c :: r ∧ 49 ≤ c := by
    cases ds with
    | nil => exact absurd rfl hne
    | cons c r =>
      have hd := h.head
      by_cases e : c = 48
      · have := h0 (by simp [e])
        exact Or.inl (by omega)
      · exact Or.inr ⟨c, r, rfl, by omega⟩
  have hl : ds.length = (ds.length - 1) + 1 := by
    have := len_pos hne
    omega
  rw [toDigits_digitsVal _ ds hl h hc, List.map_map]
  have : ∀ l : List Nat, AllDigits l → l.map (Char.toNat ∘ Char.ofNat) = l := by
    intro l
    induction l with
    | nil => intro _; rfl
    | cons c r ih =>
      intro hl
      rw [List.map_cons, ih hl.tail]
      have hd := hl.head
      have : ∀ c : Nat, 48 ≤ c → c ≤ 57 → (Char.toNat ∘ Char.ofNat) c = c := by
        intro c h1 h2
        have hh : ∀ d : Nat, d < 10 → (Char.ofNat (48 + d)).toNat = 48 + d := by decide
        have := hh (c - 48) (by omega)
        rw [show 48 + (c - 48) = c by omega] at this
        exact this
      rw [this c hd.1 hd.2]
  exact this ds h

theorem digitsVal_zero_iff {ds : List Nat} (h : AllDigits ds) (hne : ds ≠ []) (h0 : ds.head? = some 48 → ds.length = 1) (hz : digitsVal ds = 0) : ds = [48] := by
  have e := natL_val h hne h0
  rw [hz] at e
  exact e.symm
theorem intL_val {neg : Bool} {ds : List Nat} (h : AllDigits ds) (hne : ds ≠ []) (h0 : ds.head? = some 48 → ds.length + (if neg then 1 else 0) = 1) : intL (valL neg ds) = (if neg then [45] else []) ++ ds := by
  have hl := len_pos hne
  have h0' : ds.head? = some 48 → ds.length = 1 := fun e => by
    have := h0 e
    split at this <;> omega
  have e := natL_val h hne h0'
  cases neg with
  | false =>
    have hn : ¬ ((digitsVal ds : Nat) : Int) < 0 := by omega
    simp only [valL, intL, Bool.false_eq_true, if_false, hn, Int.natAbs_natCast, List.nil_append]
    exact e
  | true =>
    have hpos : digitsVal ds ≠ 0 := fun hz => by
      have := digitsVal_zero_iff h hne h0' hz
      rw [this] at h0
      have := h0 rfl
      simp at this
    have hn : (-((digitsVal ds : Nat) : Int)) < 0 := by omega
    simp only [valL, intL, if_true, hn, Int.natAbs_neg, Int.natAbs_natCast, List.cons_append, List.nil_append]
    rw [e]

/-- the token's text is what stands there -/
theorem lex_txt {c : Nat} {r : List Nat} {t : Tk} {n : Nat} (h : lex c r = some (t, n)) : txt t = (c :: r).take n ∧ Ok t := by
  unfold lex at h
  split at h
  · rename_i hs
    cases h
    exact ⟨rfl, hs⟩
  · split at h
    · rename_i hl
      cases h
      refine ⟨tw_take _ _, ?_⟩
      show isWord _ = true
      unfold isWord
      rw [Bool.and_eq_true]
      refine ⟨by rw [List.takeWhile_cons, if_pos hl]; rfl, List.all_eq_true.mpr (tw_all _ _)⟩
    · split at h
      · rename_i hq
        dsimp only at h
        split at h
        · rename_i hw
          cases h
          refine ⟨?_, ?_⟩
          · show 34 :: (r.takeWhile isL ++ [34]) = _
            subst hq
            rw [show (r.takeWhile isL).length + 2 = ((r.takeWhile isL).length + 1) + 1 from rfl, List.take_succ_cons]
            congr 1
            have hd : ∃ q, r.drop (r.takeWhile isL).length = 34 :: q := by
              cases hh : r.drop (r.takeWhile isL).length with
              | nil => rw [hh] at hw; simp at hw
              | cons d q => rw [hh] at hw; simp at hw; exact ⟨q, by rw [hw.2]⟩
            obtain ⟨q, hd⟩ := hd
            have hr : r = r.takeWhile isL ++ 34 :: q := by
              have z := tw_append_dw isL r
              rw [hd] at z
              exact z.symm
            generalize r.takeWhile isL = u at hr ⊢
            rw [hr, List.take_append, List.take_of_length_le (by omega), show u.length + 1 - u.length = 1 by omega]
            rfl
          · show isWord _ = true
            unfold isWord
            rw [Bool.and_eq_true]
            refine ⟨?_, List.all_eq_true.mpr (tw_all _ _)⟩
            cases hh : r.takeWhile isL with
            | nil => exact absurd hh hw.1
            | cons _ _ => rfl
        · cases h
      · obtain ⟨h1, h2, neg, ds, hneg, hds, hn, rfl, hne, h0⟩ := lexI_spec h
        refine ⟨?_, trivial⟩
        have had : AllDigits ds := digits_of_isD (by rw [hds]; exact tw_all _ _)
        show intL (valL neg ds) = _
        rw [intL_val had hne (fun e => by rw [← hn]; exact h0 e)]
        cases neg with
        | false =>
          have hc : ¬ c = 45 := by simpa using hneg.symm
          simp only [Bool.false_eq_true, if_false] at hds hn ⊢
          rw [hn, hds]
          exact tw_take _ _
        | true =>
          have hc : c = 45 := by simpa using hneg.symm
          simp only [if_true] at hds hn ⊢
          rw [hn, List.take_succ_cons, hc, hds]
          show 45 :: _ = 45 :: _
          congr 1
          exact tw_take _ _

def spn (s : List Nat) : Nat := (s.takeWhile (fun c => decide (c = 32))).length
theorem spn_le (s : List Nat) : spn s ≤ s.length := run_len _ _

/-- all tokens of a text with their places; the last one is fin or bad -/
def toks (off : Nat) (s : List Nat) : List (Nat × Tk) :=
  match h : s.drop (spn s) with
  | [] => [(off + spn s, .fin)]
  | c :: r =>
    match h' : lex c r with
    | none => [(off + spn s, .bad)]
    | some (t, n) => (off + spn s, t) :: toks (off + spn s + n) (s.drop (spn s + n))
termination_by s.length
decreasing_by
  have h1 := (lex_len h').1
  have h2 : 0 < (s.drop (spn s)).length := by rw [h]; simp
  rw [List.length_drop] at h2 ⊢
  omega

theorem toks_nil {off : Nat} {s : List Nat} (h : s.drop (spn s) = []) : toks off s = [(off + spn s, .fin)] := by
  rw [toks]
  split
  · rfl
  · rename_i e; rw [h] at e; cases e
theorem toks_bad {off : Nat} {s : List Nat} {c : Nat} {r : List Nat} (h : s.drop (spn s) = c :: r) (h' : lex c r = none) : toks off s = [(off + spn s, .bad)] := by
  rw [toks]
  split
  · rename_i e; rw [h] at e; cases e
  · rename_i c' r' e
    rw [h] at e
    cases e
    split
    · rfl
    · rename_i e; rw [h'] at e; cases e
theorem toks_cons {off : Nat} {s : List Nat} {c : Nat} {r : List Nat} {t : Tk} {n : Nat} (h : s.drop (spn s) = c :: r) (h' : lex c r = some (t, n)) :
    toks off s = (off + spn s, t) :: toks (off + spn s + n) (s.drop (spn s + n)) := by
  rw [toks]
  split
  · rename_i e; rw [h] at e; cases e
  · rename_i c' r' e
    rw [h] at e
    cases e
    split
    · rename_i e; rw [h'] at e; cases e
    · rename_i e; rw [h'] at e; cases e; rfl

/-- tokens are well formed; fin and bad stand at the end alone, and one of them does -/
inductive Wf : List (Nat × Tk) → Prop where
  | fin (a : Nat) : Wf [(a, .fin)]
  | bad (a : Nat) : Wf [(a, .bad)]
  | cons {a : Nat} {t : Tk} {r : List (Nat × Tk)} : Ok t → t ≠ .fin → t ≠ .bad → Wf r → Wf ((a, t) :: r)
theorem lex_not {c : Nat} {r : List Nat} {t : Tk} {n : Nat} (h : lex c r = some (t, n)) : t ≠ .fin ∧ t ≠ .bad := by
  unfold lex at h
  split at h
  · cases h; exact ⟨nofun, nofun⟩
  · split at h
    · cases h; exact ⟨nofun, nofun⟩
    · split at h
      · dsimp only at h
        split at h
        · cases h; exact ⟨nofun, nofun⟩
        · cases h
      · obtain ⟨_, _, neg, ds, _, _, _, rfl, _⟩ := lexI_spec h
        exact ⟨nofun, nofun⟩
theorem wf_toks : ∀ (m : Nat) (off : Nat) (s : List Nat), s.length ≤ m → Wf (toks off s)
  | m, off, s, hm => by
    cases h : s.drop (spn s) with
    | nil => rw [toks_nil h]; exact .fin _
    | cons c r =>
      cases h' : lex c r with
      | none => rw [toks_bad h h']; exact .bad _
      | some p =>
        obtain ⟨t, n⟩ := p
        have h1 := (lex_len h').1
        have h2 : 0 < (s.drop (spn s)).length := by rw [h]; simp
        rw [List.length_drop] at h2
        rw [toks_cons h h']
        cases m with
        | zero => omega
        | succ m => exact .cons (lex_txt h').2 (lex_not h').1 (lex_not h').2 (wf_toks m _ _ (by rw [List.length_drop]; omega))
end K26

end
section
set_option linter.all false
set_option maxRecDepth 100000
set_option maxHeartbeats 4000000
namespace K26
open PySem PySem.Spec PyProof.Rows L2
def ex (K : PySem.W.Frag) : Bool := true
/-- what the top has written -/
structure Txt (K : PySem.W.Frag) (mg : Str → Option Value) : Prop where
  says : He.SaysD fa fn K
  more : ex K = true
  at_ : ∃ h : Heap, K.In h ∧ h.Ns mainGlobals mg
section
variable {K : PySem.W.Frag} {mg : Str → Option Value}
theorem Txt.g_run_end (T : Txt K mg) : mg "run_end" = some (.ref (He.ga K "run_end")) := let ⟨_, X, G⟩ := T.at_; He.glo_ok X G (T.says.fact 0 (f := .glo "run_end") rfl)
theorem Txt.g_integer_at (T : Txt K mg) : mg "integer_at" = some (.ref (He.ga K "integer_at")) := let ⟨_, X, G⟩ := T.at_; He.glo_ok X G (T.says.fact 1 (f := .glo "integer_at") rfl)
theorem Txt.g_token_at (T : Txt K mg) : mg "token_at" = some (.ref (He.ga K "token_at")) := let ⟨_, X, G⟩ := T.at_; He.glo_ok X G (T.says.fact 2 (f := .glo "token_at") rfl)
theorem Txt.g_tokens_of (T : Txt K mg) : mg "tokens_of" = some (.ref (He.ga K "tokens_of")) := let ⟨_, X, G⟩ := T.at_; He.glo_ok X G (T.says.fact 3 (f := .glo "tokens_of") rfl)
theorem Txt.g_read_scan (T : Txt K mg) : mg "read_scan" = some (.ref (He.ga K "read_scan")) := let ⟨_, X, G⟩ := T.at_; He.glo_ok X G (T.says.fact 4 (f := .glo "read_scan") rfl)
theorem Txt.g_read_node (T : Txt K mg) : mg "read_node" = some (.ref (He.ga K "read_node")) := let ⟨_, X, G⟩ := T.at_; He.glo_ok X G (T.says.fact 5 (f := .glo "read_node") rfl)
theorem Txt.g_read_plan (T : Txt K mg) : mg "read_plan" = some (.ref (He.ga K "read_plan")) := let ⟨_, X, G⟩ := T.at_; He.glo_ok X G (T.says.fact 6 (f := .glo "read_plan") rfl)
theorem Txt.g_l_draws (T : Txt K mg) : mg "_law_draws" = some (.ref (He.ga K "_law_draws")) := let ⟨_, X, G⟩ := T.at_; He.glo_ok X G (T.says.fact 7 (f := .glo "_law_draws") rfl)
theorem Txt.g_l_take (T : Txt K mg) : mg "_law_take" = some (.ref (He.ga K "_law_take")) := let ⟨_, X, G⟩ := T.at_; He.glo_ok X G (T.says.fact 8 (f := .glo "_law_take") rfl)
theorem Txt.g_l_pick (T : Txt K mg) : mg "_law_pick" = some (.ref (He.ga K "_law_pick")) := let ⟨_, X, G⟩ := T.at_; He.glo_ok X G (T.says.fact 9 (f := .glo "_law_pick") rfl)
theorem Txt.g_l_same (T : Txt K mg) : mg "_law_same" = some (.ref (He.ga K "_law_same")) := let ⟨_, X, G⟩ := T.at_; He.glo_ok X G (T.says.fact 10 (f := .glo "_law_same") rfl)
theorem Txt.g_l_pool (T : Txt K mg) : mg "_law_pool" = some (.ref (He.ga K "_law_pool")) := let ⟨_, X, G⟩ := T.at_; He.glo_ok X G (T.says.fact 11 (f := .glo "_law_pool") rfl)
theorem Txt.g_l_values (T : Txt K mg) : mg "_law_values" = some (.ref (He.ga K "_law_values")) := let ⟨_, X, G⟩ := T.at_; He.glo_ok X G (T.says.fact 12 (f := .glo "_law_values") rfl)
theorem Txt.g_l_value (T : Txt K mg) : mg "_law_value" = some (.ref (He.ga K "_law_value")) := let ⟨_, X, G⟩ := T.at_; He.glo_ok X G (T.says.fact 13 (f := .glo "_law_value") rfl)
theorem Txt.g_l_world (T : Txt K mg) : mg "_law_world" = some (.ref (He.ga K "_law_world")) := let ⟨_, X, G⟩ := T.at_; He.glo_ok X G (T.says.fact 14 (f := .glo "_law_world") rfl)
theorem Txt.g_l_term (T : Txt K mg) : mg "_law_term" = some (.ref (He.ga K "_law_term")) := let ⟨_, X, G⟩ := T.at_; He.glo_ok X G (T.says.fact 15 (f := .glo "_law_term") rfl)
theorem Txt.g_l_atom (T : Txt K mg) : mg "_law_atom" = some (.ref (He.ga K "_law_atom")) := let ⟨_, X, G⟩ := T.at_; He.glo_ok X G (T.says.fact 16 (f := .glo "_law_atom") rfl)
theorem Txt.g_l_simple (T : Txt K mg) : mg "_law_simple" = some (.ref (He.ga K "_law_simple")) := let ⟨_, X, G⟩ := T.at_; He.glo_ok X G (T.says.fact 17 (f := .glo "_law_simple") rfl)
theorem Txt.g_l_is_word (T : Txt K mg) : mg "_law_is_word" = some (.ref (He.ga K "_law_is_word")) := let ⟨_, X, G⟩ := T.at_; He.glo_ok X G (T.says.fact 18 (f := .glo "_law_is_word") rfl)
theorem Txt.g_l_great (T : Txt K mg) : mg "_law_great" = some (.ref (He.ga K "_law_great")) := let ⟨_, X, G⟩ := T.at_; He.glo_ok X G (T.says.fact 19 (f := .glo "_law_great") rfl)
theorem Txt.g_l_text_world (T : Txt K mg) : mg "_law_text_world" = some (.ref (He.ga K "_law_text_world")) := let ⟨_, X, G⟩ := T.at_; He.glo_ok X G (T.says.fact 20 (f := .glo "_law_text_world") rfl)
theorem Txt.g_l_value_text (T : Txt K mg) : mg "_law_value_text" = some (.ref (He.ga K "_law_value_text")) := let ⟨_, X, G⟩ := T.at_; He.glo_ok X G (T.says.fact 21 (f := .glo "_law_value_text") rfl)
theorem Txt.g_l_term_text (T : Txt K mg) : mg "_law_term_text" = some (.ref (He.ga K "_law_term_text")) := let ⟨_, X, G⟩ := T.at_; He.glo_ok X G (T.says.fact 22 (f := .glo "_law_term_text") rfl)
theorem Txt.g_l_between (T : Txt K mg) : mg "_law_between" = some (.ref (He.ga K "_law_between")) := let ⟨_, X, G⟩ := T.at_; He.glo_ok X G (T.says.fact 23 (f := .glo "_law_between") rfl)
theorem Txt.g_l_atom_texts (T : Txt K mg) : mg "_law_atom_texts" = some (.ref (He.ga K "_law_atom_texts")) := let ⟨_, X, G⟩ := T.at_; He.glo_ok X G (T.says.fact 24 (f := .glo "_law_atom_texts") rfl)
theorem Txt.g_l_plan_texts (T : Txt K mg) : mg "_law_plan_texts" = some (.ref (He.ga K "_law_plan_texts")) := let ⟨_, X, G⟩ := T.at_; He.glo_ok X G (T.says.fact 25 (f := .glo "_law_plan_texts") rfl)
theorem Txt.g_l_any_plan (T : Txt K mg) : mg "_law_any_plan" = some (.ref (He.ga K "_law_any_plan")) := let ⟨_, X, G⟩ := T.at_; He.glo_ok X G (T.says.fact 26 (f := .glo "_law_any_plan") rfl)
theorem Txt.g_l_more_atoms (T : Txt K mg) : mg "_law_more_atoms" = some (.ref (He.ga K "_law_more_atoms")) := let ⟨_, X, G⟩ := T.at_; He.glo_ok X G (T.says.fact 27 (f := .glo "_law_more_atoms") rfl)
theorem Txt.g_l_spoiled (T : Txt K mg) : mg "_law_spoiled" = some (.ref (He.ga K "_law_spoiled")) := let ⟨_, X, G⟩ := T.at_; He.glo_ok X G (T.says.fact 28 (f := .glo "_law_spoiled") rfl)
theorem Txt.g_l_near (T : Txt K mg) : mg "_law_near" = some (.ref (He.ga K "_law_near")) := let ⟨_, X, G⟩ := T.at_; He.glo_ok X G (T.says.fact 29 (f := .glo "_law_near") rfl)
theorem Txt.g_l_menu (T : Txt K mg) : mg "_law_menu" = some (.ref (He.ga K "_law_menu")) := let ⟨_, X, G⟩ := T.at_; He.glo_ok X G (T.says.fact 30 (f := .glo "_law_menu") rfl)
theorem Txt.g_l_run (T : Txt K mg) : mg "_law_run" = some (.ref (He.ga K "_law_run")) := let ⟨_, X, G⟩ := T.at_; He.glo_ok X G (T.says.fact 31 (f := .glo "_law_run") rfl)
theorem Txt.g_l_token_end (T : Txt K mg) : mg "_law_token_end" = some (.ref (He.ga K "_law_token_end")) := let ⟨_, X, G⟩ := T.at_; He.glo_ok X G (T.says.fact 32 (f := .glo "_law_token_end") rfl)
theorem Txt.g_l_tokens (T : Txt K mg) : mg "_law_tokens" = some (.ref (He.ga K "_law_tokens")) := let ⟨_, X, G⟩ := T.at_; He.glo_ok X G (T.says.fact 33 (f := .glo "_law_tokens") rfl)
theorem Txt.g_l_loose (T : Txt K mg) : mg "_law_loose" = some (.ref (He.ga K "_law_loose")) := let ⟨_, X, G⟩ := T.at_; He.glo_ok X G (T.says.fact 34 (f := .glo "_law_loose") rfl)
theorem Txt.g_l_plan_result (T : Txt K mg) : mg "_law_plan_result" = some (.ref (He.ga K "_law_plan_result")) := let ⟨_, X, G⟩ := T.at_; He.glo_ok X G (T.says.fact 35 (f := .glo "_law_plan_result") rfl)
theorem Txt.g_l_plan_stop (T : Txt K mg) : mg "_law_plan_stop" = some (.ref (He.ga K "_law_plan_stop")) := let ⟨_, X, G⟩ := T.at_; He.glo_ok X G (T.says.fact 36 (f := .glo "_law_plan_stop") rfl)
theorem Txt.g_l_plan_of (T : Txt K mg) : mg "_law_plan_of" = some (.ref (He.ga K "_law_plan_of")) := let ⟨_, X, G⟩ := T.at_; He.glo_ok X G (T.says.fact 37 (f := .glo "_law_plan_of") rfl)
theorem Txt.g_l_read_plan (T : Txt K mg) : mg "_law_read_plan" = some (.ref (He.ga K "_law_read_plan")) := let ⟨_, X, G⟩ := T.at_; He.glo_ok X G (T.says.fact 38 (f := .glo "_law_read_plan") rfl)
theorem Txt.g_l_classes (T : Txt K mg) : mg "_law_classes" = some (.ref (He.ga K "_law_classes")) := let ⟨_, X, G⟩ := T.at_; He.glo_ok X G (T.says.fact 39 (f := .glo "_law_classes") rfl)
theorem Txt.g_law (T : Txt K mg) : mg "law" = some (.ref (He.ga K "law")) := let ⟨_, X, G⟩ := T.at_; He.glo_ok X G (T.says.fact 40 (f := .glo "law") rfl)
theorem Txt.g_ChanceError (T : Txt K mg) : mg "ChanceError" = some (.ref (He.ga K "ChanceError")) := let ⟨_, X, G⟩ := T.at_; He.glo_ok X G (T.says.fact 41 (f := .glo "ChanceError") rfl)
theorem Txt.g_DoubleFact (T : Txt K mg) : mg "DoubleFact" = some (.ref (He.ga K "DoubleFact")) := let ⟨_, X, G⟩ := T.at_; He.glo_ok X G (T.says.fact 42 (f := .glo "DoubleFact") rfl)
theorem Txt.g_BadText (T : Txt K mg) : mg "BadText" = some (.ref (He.ga K "BadText")) := let ⟨_, X, G⟩ := T.at_; He.glo_ok X G (T.says.fact 43 (f := .glo "BadText") rfl)
theorem Txt.g_Line (T : Txt K mg) : mg "Line" = some (.ref (He.ga K "Line")) := let ⟨_, X, G⟩ := T.at_; He.glo_ok X G (T.says.fact 44 (f := .glo "Line") rfl)
theorem Txt.b_len (T : Txt K mg) : mg "len" = none := let ⟨_, X, G⟩ := T.at_; He.free_ok X G (T.says.fact 45 (f := .free "len") rfl)
theorem Txt.b_int (T : Txt K mg) : mg "int" = none := let ⟨_, X, G⟩ := T.at_; He.free_ok X G (T.says.fact 46 (f := .free "int") rfl)
theorem Txt.b_str (T : Txt K mg) : mg "str" = none := let ⟨_, X, G⟩ := T.at_; He.free_ok X G (T.says.fact 47 (f := .free "str") rfl)
theorem Txt.b_range (T : Txt K mg) : mg "range" = none := let ⟨_, X, G⟩ := T.at_; He.free_ok X G (T.says.fact 48 (f := .free "range") rfl)
theorem Txt.b_list (T : Txt K mg) : mg "list" = none := let ⟨_, X, G⟩ := T.at_; He.free_ok X G (T.says.fact 49 (f := .free "list") rfl)
theorem Txt.b_tuple (T : Txt K mg) : mg "tuple" = none := let ⟨_, X, G⟩ := T.at_; He.free_ok X G (T.says.fact 50 (f := .free "tuple") rfl)
theorem Txt.b_sorted (T : Txt K mg) : mg "sorted" = none := let ⟨_, X, G⟩ := T.at_; He.free_ok X G (T.says.fact 51 (f := .free "sorted") rfl)
theorem Txt.b_isinstance (T : Txt K mg) : mg "isinstance" = none := let ⟨_, X, G⟩ := T.at_; He.free_ok X G (T.says.fact 52 (f := .free "isinstance") rfl)
theorem Txt.b_enumerate (T : Txt K mg) : mg "enumerate" = none := let ⟨_, X, G⟩ := T.at_; He.free_ok X G (T.says.fact 53 (f := .free "enumerate") rfl)
theorem Txt.b_ValueError (T : Txt K mg) : mg "ValueError" = none := let ⟨_, X, G⟩ := T.at_; He.free_ok X G (T.says.fact 54 (f := .free "ValueError") rfl)
theorem Txt.b_super (T : Txt K mg) : mg "super" = none := let ⟨_, X, G⟩ := T.at_; He.free_ok X G (T.says.fact 55 (f := .free "super") rfl)
theorem Txt.b_bool (T : Txt K mg) : mg "bool" = none := let ⟨_, X, G⟩ := T.at_; He.free_ok X G (T.says.fact 56 (f := .free "bool") rfl)
theorem Txt.c_LETTERS (T : Txt K mg) : ∃ t, mg "LETTERS" = some (.str "abcdefghijklmnopqrstuvwxyz" t) := let ⟨_, X, G⟩ := T.at_; He.str_ok X G (T.says.fact 57 (f := .str "LETTERS" "abcdefghijklmnopqrstuvwxyz") rfl)
theorem Txt.c_DIGITS (T : Txt K mg) : ∃ t, mg "DIGITS" = some (.str "0123456789" t) := let ⟨_, X, G⟩ := T.at_; He.str_ok X G (T.says.fact 58 (f := .str "DIGITS" "0123456789") rfl)
theorem Txt.c_SIGNS (T : Txt K mg) : ∃ t, mg "SIGNS" = some (.str "()[],;/*!" t) := let ⟨_, X, G⟩ := T.at_; He.str_ok X G (T.says.fact 59 (f := .str "SIGNS" "()[],;/*!") rfl)
theorem Txt.cls_Line (T : Txt K mg) : Cls K (He.ga K "Line") := He.cls_ok (T.says.fact 60 (f := .cls "Line") rfl)
theorem Txt.no_number (T : Txt K mg) : NoAttr K (He.ga K "Line") "number" := He.noat_ok (T.says.fact 61 (f := .noat "Line" "number") rfl)
theorem Txt.no_tokens (T : Txt K mg) : NoAttr K (He.ga K "Line") "tokens" := He.noat_ok (T.says.fact 62 (f := .noat "Line" "tokens") rfl)
theorem Txt.no_many (T : Txt K mg) : NoAttr K (He.ga K "Line") "many" := He.noat_ok (T.says.fact 63 (f := .noat "Line" "many") rfl)
theorem Txt.m_kind (T : Txt K mg) : Meth K (He.ga K "Line") "kind" (He.ma K (He.ga K "Line") "kind") := He.meth_ok (T.says.fact 64 (f := .meth "Line" "kind") rfl)
theorem Txt.m_value (T : Txt K mg) : Meth K (He.ga K "Line") "value" (He.ma K (He.ga K "Line") "value") := He.meth_ok (T.says.fact 65 (f := .meth "Line" "value") rfl)
theorem Txt.m_refuse (T : Txt K mg) : Meth K (He.ga K "Line") "refuse" (He.ma K (He.ga K "Line") "refuse") := He.meth_ok (T.says.fact 66 (f := .meth "Line" "refuse") rfl)
theorem Txt.m_take (T : Txt K mg) : Meth K (He.ga K "Line") "take" (He.ma K (He.ga K "Line") "take") := He.meth_ok (T.says.fact 67 (f := .meth "Line" "take") rfl)
theorem Txt.m_term (T : Txt K mg) : Meth K (He.ga K "Line") "term" (He.ma K (He.ga K "Line") "term") := He.meth_ok (T.says.fact 68 (f := .meth "Line" "term") rfl)
theorem Txt.m_take_term (T : Txt K mg) : Meth K (He.ga K "Line") "take_term" (He.ma K (He.ga K "Line") "take_term") := He.meth_ok (T.says.fact 69 (f := .meth "Line" "take_term") rfl)
theorem Txt.mk_Line (T : Txt K mg) : Mk K (He.ga K "Line") (He.ma K (He.ga K "Line") "__init__") := He.mkr_ok (T.says.fact 70 (f := .mkr "Line") rfl)
theorem Txt.f_run_end (T : Txt K mg) : ∃ fd, FunD K d_run_end.name d_run_end.qual d_run_end.params d_run_end.body d_run_end.scope [] [] (He.fAd K d_run_end.at_) fd := T.says.def_ 0 (d := d_run_end) rfl
theorem Txt.f_integer_at (T : Txt K mg) : ∃ fd, FunD K d_integer_at.name d_integer_at.qual d_integer_at.params d_integer_at.body d_integer_at.scope [] [] (He.fAd K d_integer_at.at_) fd := T.says.def_ 1 (d := d_integer_at) rfl
theorem Txt.f_token_at (T : Txt K mg) : ∃ fd, FunD K d_token_at.name d_token_at.qual d_token_at.params d_token_at.body d_token_at.scope [] [] (He.fAd K d_token_at.at_) fd := T.says.def_ 2 (d := d_token_at) rfl
theorem Txt.f_tokens_of (T : Txt K mg) : ∃ fd, FunD K d_tokens_of.name d_tokens_of.qual d_tokens_of.params d_tokens_of.body d_tokens_of.scope [] [] (He.fAd K d_tokens_of.at_) fd := T.says.def_ 3 (d := d_tokens_of) rfl
theorem Txt.f_read_scan (T : Txt K mg) : ∃ fd, FunD K d_read_scan.name d_read_scan.qual d_read_scan.params d_read_scan.body d_read_scan.scope [] [] (He.fAd K d_read_scan.at_) fd := T.says.def_ 4 (d := d_read_scan) rfl
theorem Txt.f_read_node (T : Txt K mg) : ∃ fd, FunD K d_read_node.name d_read_node.qual d_read_node.params d_read_node.body d_read_node.scope [] [] (He.fAd K d_read_node.at_) fd := T.says.def_ 5 (d := d_read_node) rfl
theorem Txt.f_read_plan (T : Txt K mg) : ∃ fd, FunD K d_read_plan.name d_read_plan.qual d_read_plan.params d_read_plan.body d_read_plan.scope [] [] (He.fAd K d_read_plan.at_) fd := T.says.def_ 6 (d := d_read_plan) rfl
theorem Txt.f_l_draws (T : Txt K mg) : ∃ fd, FunD K d_l_draws.name d_l_draws.qual d_l_draws.params d_l_draws.body d_l_draws.scope [] [] (He.fAd K d_l_draws.at_) fd := T.says.def_ 7 (d := d_l_draws) rfl
theorem Txt.f_l_take (T : Txt K mg) : ∃ fd, FunD K d_l_take.name d_l_take.qual d_l_take.params d_l_take.body d_l_take.scope [] [] (He.fAd K d_l_take.at_) fd := T.says.def_ 8 (d := d_l_take) rfl
theorem Txt.f_l_pick (T : Txt K mg) : ∃ fd, FunD K d_l_pick.name d_l_pick.qual d_l_pick.params d_l_pick.body d_l_pick.scope [] [] (He.fAd K d_l_pick.at_) fd := T.says.def_ 9 (d := d_l_pick) rfl
theorem Txt.f_l_same (T : Txt K mg) : ∃ fd, FunD K d_l_same.name d_l_same.qual d_l_same.params d_l_same.body d_l_same.scope [] [] (He.fAd K d_l_same.at_) fd := T.says.def_ 10 (d := d_l_same) rfl
theorem Txt.f_l_pool (T : Txt K mg) : ∃ fd, FunD K d_l_pool.name d_l_pool.qual d_l_pool.params d_l_pool.body d_l_pool.scope [] [] (He.fAd K d_l_pool.at_) fd := T.says.def_ 11 (d := d_l_pool) rfl
theorem Txt.f_l_values (T : Txt K mg) : ∃ fd, FunD K d_l_values.name d_l_values.qual d_l_values.params d_l_values.body d_l_values.scope [] [] (He.fAd K d_l_values.at_) fd := T.says.def_ 12 (d := d_l_values) rfl
theorem Txt.f_l_value (T : Txt K mg) : ∃ fd, FunD K d_l_value.name d_l_value.qual d_l_value.params d_l_value.body d_l_value.scope [] [] (He.fAd K d_l_value.at_) fd := T.says.def_ 13 (d := d_l_value) rfl
theorem Txt.f_l_world (T : Txt K mg) : ∃ fd, FunD K d_l_world.name d_l_world.qual d_l_world.params d_l_world.body d_l_world.scope [] [] (He.fAd K d_l_world.at_) fd := T.says.def_ 14 (d := d_l_world) rfl
theorem Txt.f_l_term (T : Txt K mg) : ∃ fd, FunD K d_l_term.name d_l_term.qual d_l_term.params d_l_term.body d_l_term.scope [] [] (He.fAd K d_l_term.at_) fd := T.says.def_ 15 (d := d_l_term) rfl
theorem Txt.f_l_atom (T : Txt K mg) : ∃ fd, FunD K d_l_atom.name d_l_atom.qual d_l_atom.params d_l_atom.body d_l_atom.scope [] [] (He.fAd K d_l_atom.at_) fd := T.says.def_ 16 (d := d_l_atom) rfl
theorem Txt.f_l_simple (T : Txt K mg) : ∃ fd, FunD K d_l_simple.name d_l_simple.qual d_l_simple.params d_l_simple.body d_l_simple.scope [] [] (He.fAd K d_l_simple.at_) fd := T.says.def_ 17 (d := d_l_simple) rfl
theorem Txt.f_l_is_word (T : Txt K mg) : ∃ fd, FunD K d_l_is_word.name d_l_is_word.qual d_l_is_word.params d_l_is_word.body d_l_is_word.scope [] [] (He.fAd K d_l_is_word.at_) fd := T.says.def_ 18 (d := d_l_is_word) rfl
theorem Txt.f_l_great (T : Txt K mg) : ∃ fd, FunD K d_l_great.name d_l_great.qual d_l_great.params d_l_great.body d_l_great.scope [] [] (He.fAd K d_l_great.at_) fd := T.says.def_ 19 (d := d_l_great) rfl
theorem Txt.f_l_text_world (T : Txt K mg) : ∃ fd, FunD K d_l_text_world.name d_l_text_world.qual d_l_text_world.params d_l_text_world.body d_l_text_world.scope [] [] (He.fAd K d_l_text_world.at_) fd := T.says.def_ 20 (d := d_l_text_world) rfl
theorem Txt.f_l_value_text (T : Txt K mg) : ∃ fd, FunD K d_l_value_text.name d_l_value_text.qual d_l_value_text.params d_l_value_text.body d_l_value_text.scope [] [] (He.fAd K d_l_value_text.at_) fd := T.says.def_ 21 (d := d_l_value_text) rfl
theorem Txt.f_l_term_text (T : Txt K mg) : ∃ fd, FunD K d_l_term_text.name d_l_term_text.qual d_l_term_text.params d_l_term_text.body d_l_term_text.scope [] [] (He.fAd K d_l_term_text.at_) fd := T.says.def_ 22 (d := d_l_term_text) rfl
theorem Txt.f_l_between (T : Txt K mg) : ∃ fd, FunD K d_l_between.name d_l_between.qual d_l_between.params d_l_between.body d_l_between.scope [] [] (He.fAd K d_l_between.at_) fd := T.says.def_ 23 (d := d_l_between) rfl
theorem Txt.f_l_atom_texts (T : Txt K mg) : ∃ fd, FunD K d_l_atom_texts.name d_l_atom_texts.qual d_l_atom_texts.params d_l_atom_texts.body d_l_atom_texts.scope [] [] (He.fAd K d_l_atom_texts.at_) fd := T.says.def_ 24 (d := d_l_atom_texts) rfl
theorem Txt.f_l_plan_texts (T : Txt K mg) : ∃ fd, FunD K d_l_plan_texts.name d_l_plan_texts.qual d_l_plan_texts.params d_l_plan_texts.body d_l_plan_texts.scope [] [] (He.fAd K d_l_plan_texts.at_) fd := T.says.def_ 25 (d := d_l_plan_texts) rfl
theorem Txt.f_l_any_plan (T : Txt K mg) : ∃ fd, FunD K d_l_any_plan.name d_l_any_plan.qual d_l_any_plan.params d_l_any_plan.body d_l_any_plan.scope [] [] (He.fAd K d_l_any_plan.at_) fd := T.says.def_ 26 (d := d_l_any_plan) rfl
theorem Txt.f_l_more_atoms (T : Txt K mg) : ∃ fd, FunD K d_l_more_atoms.name d_l_more_atoms.qual d_l_more_atoms.params d_l_more_atoms.body d_l_more_atoms.scope [] [] (He.fAd K d_l_more_atoms.at_) fd := T.says.def_ 27 (d := d_l_more_atoms) rfl
theorem Txt.f_l_spoiled (T : Txt K mg) : ∃ fd, FunD K d_l_spoiled.name d_l_spoiled.qual d_l_spoiled.params d_l_spoiled.body d_l_spoiled.scope [] [] (He.fAd K d_l_spoiled.at_) fd := T.says.def_ 28 (d := d_l_spoiled) rfl
theorem Txt.f_l_near (T : Txt K mg) : ∃ fd, FunD K d_l_near.name d_l_near.qual d_l_near.params d_l_near.body d_l_near.scope [] [] (He.fAd K d_l_near.at_) fd := T.says.def_ 29 (d := d_l_near) rfl
theorem Txt.f_l_menu (T : Txt K mg) : ∃ fd, FunD K d_l_menu.name d_l_menu.qual d_l_menu.params d_l_menu.body d_l_menu.scope [] [] (He.fAd K d_l_menu.at_) fd := T.says.def_ 30 (d := d_l_menu) rfl
theorem Txt.f_l_run (T : Txt K mg) : ∃ fd, FunD K d_l_run.name d_l_run.qual d_l_run.params d_l_run.body d_l_run.scope [] [] (He.fAd K d_l_run.at_) fd := T.says.def_ 31 (d := d_l_run) rfl
theorem Txt.f_l_token_end (T : Txt K mg) : ∃ fd, FunD K d_l_token_end.name d_l_token_end.qual d_l_token_end.params d_l_token_end.body d_l_token_end.scope [] [] (He.fAd K d_l_token_end.at_) fd := T.says.def_ 32 (d := d_l_token_end) rfl
theorem Txt.f_l_tokens (T : Txt K mg) : ∃ fd, FunD K d_l_tokens.name d_l_tokens.qual d_l_tokens.params d_l_tokens.body d_l_tokens.scope [] [] (He.fAd K d_l_tokens.at_) fd := T.says.def_ 33 (d := d_l_tokens) rfl
theorem Txt.f_l_loose (T : Txt K mg) : ∃ fd, FunD K d_l_loose.name d_l_loose.qual d_l_loose.params d_l_loose.body d_l_loose.scope [] [] (He.fAd K d_l_loose.at_) fd := T.says.def_ 34 (d := d_l_loose) rfl
theorem Txt.f_l_plan_result (T : Txt K mg) : ∃ fd, FunD K d_l_plan_result.name d_l_plan_result.qual d_l_plan_result.params d_l_plan_result.body d_l_plan_result.scope [] [] (He.fAd K d_l_plan_result.at_) fd := T.says.def_ 35 (d := d_l_plan_result) rfl
theorem Txt.f_l_plan_stop (T : Txt K mg) : ∃ fd, FunD K d_l_plan_stop.name d_l_plan_stop.qual d_l_plan_stop.params d_l_plan_stop.body d_l_plan_stop.scope [] [] (He.fAd K d_l_plan_stop.at_) fd := T.says.def_ 36 (d := d_l_plan_stop) rfl
theorem Txt.f_l_plan_of (T : Txt K mg) : ∃ fd, FunD K d_l_plan_of.name d_l_plan_of.qual d_l_plan_of.params d_l_plan_of.body d_l_plan_of.scope [] [] (He.fAd K d_l_plan_of.at_) fd := T.says.def_ 37 (d := d_l_plan_of) rfl
theorem Txt.f_l_read_plan (T : Txt K mg) : ∃ fd, FunD K d_l_read_plan.name d_l_read_plan.qual d_l_read_plan.params d_l_read_plan.body d_l_read_plan.scope [] [] (He.fAd K d_l_read_plan.at_) fd := T.says.def_ 38 (d := d_l_read_plan) rfl
theorem Txt.f_l_classes (T : Txt K mg) : ∃ fd, FunD K d_l_classes.name d_l_classes.qual d_l_classes.params d_l_classes.body d_l_classes.scope [] [] (He.fAd K d_l_classes.at_) fd := T.says.def_ 39 (d := d_l_classes) rfl
theorem Txt.f_law (T : Txt K mg) : ∃ fd, FunD K d_law.name d_law.qual d_law.params d_law.body d_law.scope [] [] (He.fAd K d_law.at_) fd := T.says.def_ 40 (d := d_law) rfl
theorem Txt.f_Line_init (T : Txt K mg) : ∃ fd, FunD K d_Line_init.name d_Line_init.qual d_Line_init.params d_Line_init.body d_Line_init.scope [] [] (He.fAd K d_Line_init.at_) fd := T.says.def_ 41 (d := d_Line_init) rfl
theorem Txt.f_Line_kind (T : Txt K mg) : ∃ fd, FunD K d_Line_kind.name d_Line_kind.qual d_Line_kind.params d_Line_kind.body d_Line_kind.scope [] [] (He.fAd K d_Line_kind.at_) fd := T.says.def_ 42 (d := d_Line_kind) rfl
theorem Txt.f_Line_value (T : Txt K mg) : ∃ fd, FunD K d_Line_value.name d_Line_value.qual d_Line_value.params d_Line_value.body d_Line_value.scope [] [] (He.fAd K d_Line_value.at_) fd := T.says.def_ 43 (d := d_Line_value) rfl
theorem Txt.f_Line_refuse (T : Txt K mg) : ∃ fd, FunD K d_Line_refuse.name d_Line_refuse.qual d_Line_refuse.params d_Line_refuse.body d_Line_refuse.scope [] [] (He.fAd K d_Line_refuse.at_) fd := T.says.def_ 44 (d := d_Line_refuse) rfl
theorem Txt.f_Line_take (T : Txt K mg) : ∃ fd, FunD K d_Line_take.name d_Line_take.qual d_Line_take.params d_Line_take.body d_Line_take.scope [] [] (He.fAd K d_Line_take.at_) fd := T.says.def_ 45 (d := d_Line_take) rfl
theorem Txt.f_Line_term (T : Txt K mg) : ∃ fd, FunD K d_Line_term.name d_Line_term.qual d_Line_term.params d_Line_term.body d_Line_term.scope [] [] (He.fAd K d_Line_term.at_) fd := T.says.def_ 46 (d := d_Line_term) rfl
theorem Txt.f_Line_take_term (T : Txt K mg) : ∃ fd, FunD K d_Line_take_term.name d_Line_take_term.qual d_Line_take_term.params d_Line_take_term.body d_Line_take_term.scope [] [] (He.fAd K d_Line_take_term.at_) fd := T.says.def_ 47 (d := d_Line_take_term) rfl
end
/-- a def that may be called by its name; CX: what it may let out -/
structure Cal (P : Program) (w : World) (K : PySem.W.Frag) (mg : Str → Option Value) (base : Heap) (CX : CXT) (k : Nat) (x : Str) (sp : Sp) : Prop where
  ex : ∃ (f : Addr) (fd : FuncData) (ps : List Str), FnOk P w K mg base CX k f fd ps sp ∧ mg x = some (.ref f) ∧ PySem.W.keepIn K (.ref f) = true ∧ Binds K fd ps []
theorem Cal.mono {P : Program} {w : World} {K : PySem.W.Frag} {mg : Str → Option Value} {base : Heap} {CX : CXT} {j k : Nat} {x : Str} {sp : Sp} (c : Cal P w K mg base CX j x sp) (h : j ≤ k) : Cal P w K mg base CX k x sp := by
  obtain ⟨f, fd, ps, F, a, b, d⟩ := c.ex
  exact ⟨f, fd, ps, F.mono h, a, b, d⟩
/-- a method of the class at C -/
structure Met (P : Program) (w : World) (K : PySem.W.Frag) (mg : Str → Option Value) (base : Heap) (CX : CXT) (k : Nat) (C : Addr) (m : Str) (sp : Sp) : Prop where
  ex : ∃ (f : Addr) (fd : FuncData) (ps : List Str), Cls K C ∧ Meth K C m f ∧ FnOk P w K mg base CX k f fd ps sp ∧ Binds K fd ps []
section
variable {P : Program} {w : World} {K : PySem.W.Frag} {mg : Str → Option Value} {base : Heap}
theorem fn_ok0 {x qual : Str} {params : Arguments} {body : List Stmt} {scope : Scope} {f : Addr} {fd : FuncData} {N ps : List Str} {k : Nat} {sp : Sp} (F : FunD K x qual params body scope [] [] f fd) (S : FnScope N ps scope) (len : ∀ vs H Q E, sp vs H Q E → vs.length = ps.length)
    (hbody : ∀ (cdv : Value) (A : Around) (outer : List Env) (s : Shared) (H : Hp) (vs : List V) (Q : VK) (E : XK), Room k (A.deeper (envOfC qual scope s.heap.objs.size f cdv)) → sp vs H Q E →
      ∃ t, PSs (cxOf CX0 P w K mg base N qual scope f cdv A outer s H E).nox body t ∧ t { nx := fun _ H' => Q .non H', rt := Q } (start N vs) H) : FnOk P w K mg base CX0 (k + 1) f fd ps sp :=
  F.ok S len fun cdv A outer s H vs Q E hr h => let ⟨t, a, b⟩ := hbody cdv A outer s H vs Q E hr h; ⟨t, PSs.nox a, b⟩
theorem cal0 {x : Str} {params : Arguments} {body : List Stmt} {scope : Scope} {f : Addr} {N ps : List Str} {k : Nat} {sp : Sp} (F : ∃ fd, FunD K x x params body scope [] [] f fd) (hm : mg x = some (.ref f)) (S : FnScope N ps scope)
    (hb : ∀ (kV doc pm : Value) (an : Option Addr) (cdv ct : Value) (us : List Value), us.length = ps.length → bindArgs (PySem.W.fnOf x x params body scope .none kV doc pm an cdv ct) ⟨us, []⟩ = pure (ps.zip us)) (len : ∀ vs H Q E, sp vs H Q E → vs.length = ps.length)
    (hbody : ∀ (cdv : Value) (A : Around) (outer : List Env) (s : Shared) (H : Hp) (vs : List V) (Q : VK) (E : XK), Room k (A.deeper (envOfC x scope s.heap.objs.size f cdv)) → sp vs H Q E →
      ∃ t, PSs (cxOf CX0 P w K mg base N x scope f cdv A outer s H E).nox body t ∧ t { nx := fun _ H' => Q .non H', rt := Q } (start N vs) H) : Cal P w K mg base CX0 (k + 1) x sp := by
  obtain ⟨fd, F⟩ := F
  exact ⟨f, fd, ps, fn_ok0 F S len hbody, hm, F.kp, F.bindsN hb⟩
/-- a def that may raise -/
theorem calX {x : Str} {params : Arguments} {body : List Stmt} {scope : Scope} {f : Addr} {N ps : List Str} {k : Nat} {sp : Sp} (F : ∃ fd, FunD K x x params body scope [] [] f fd) (hm : mg x = some (.ref f)) (S : FnScope N ps scope)
    (hb : ∀ (kV doc pm : Value) (an : Option Addr) (cdv ct : Value) (us : List Value), us.length = ps.length → bindArgs (PySem.W.fnOf x x params body scope .none kV doc pm an cdv ct) ⟨us, []⟩ = pure (ps.zip us)) (len : ∀ vs H Q E, sp vs H Q E → vs.length = ps.length)
    (hbody : ∀ (cdv : Value) (A : Around) (outer : List Env) (s : Shared) (H : Hp) (vs : List V) (Q : VK) (E : XK), Room k (A.deeper (envOfC x scope s.heap.objs.size f cdv)) → sp vs H Q E →
      ∃ t, PSs (cxOf (L2.CX P w) P w K mg base N x scope f cdv A outer s H E) body t ∧ t { nx := fun _ H' => Q .non H', rt := Q } (start N vs) H) : Cal P w K mg base (L2.CX P w) (k + 1) x sp := by
  obtain ⟨fd, F⟩ := F
  exact ⟨f, fd, ps, F.ok S len hbody, hm, F.kp, F.bindsN hb⟩
end
section
variable {X : Cx} {CX : CXT} {k j : Nat} {C : Addr} {x m : Str} {sp : Sp} {E : XK} {p pos apos : Pos} {e o : Expr} {es : List Expr} {ta : TE} {t : TA}
theorem pe_x (c : Cal X.prog X.w X.K X.mg X.base CX k x sp) (hr : Room j X.A) (hk : k ≤ j) (hx : Passes CX X E) (ha : PA X (e :: es) t) (hg : Gl X x := by rfl)
    (hdb : (x == ("__debug__" : Str)) = false := by decide) (he : starEach (e :: es) X.env = (false, eval e X.env) :: starEach es X.env := by rfl) (hpl : (backTo pos (starEach es X.env)).any (·.1) = false := by rfl) :
    PE X (.Call (.Name x p) (e :: es) [] pos) (tCall sp [] E t) := by
  obtain ⟨f, fd, ps, F, hm, kp, b⟩ := c.ex
  exact pe_call F (hr.mono hk) hg hm kp b .nil hx ha hdb he hpl
theorem pe_c (c : Cal X.prog X.w X.K X.mg X.base CX0 k x sp) (hr : Room j X.A) (ha : PA X (e :: es) t) (hk : k ≤ j := by decide) (hg : Gl X x := by rfl)
    (hdb : (x == ("__debug__" : Str)) = false := by decide) (he : starEach (e :: es) X.env = (false, eval e X.env) :: starEach es X.env := by rfl) (hpl : (backTo pos (starEach es X.env)).any (·.1) = false := by rfl) :
    PE X (.Call (.Name x p) (e :: es) [] pos) (tCall sp [] E0 t) := pe_x c hr hk pass0 ha hg hdb he hpl
end

section
variable {P : Program} {w : World} {K : PySem.W.Frag} {mg : Str → Option Value} {base : Heap}
theorem met0 {m qual : Str} {C : Addr} {params : Arguments} {body : List Stmt} {scope : Scope} {f : Addr} {N ps : List Str} {k : Nat} {sp : Sp} (c : Cls K C) (me : Meth K C m f) (F : ∃ fd, FunD K m qual params body scope [] [] f fd) (S : FnScope N ps scope)
    (hb : ∀ (kV doc pm : Value) (an : Option Addr) (cdv ct : Value) (us : List Value), us.length = ps.length → bindArgs (PySem.W.fnOf m qual params body scope .none kV doc pm an cdv ct) ⟨us, []⟩ = pure (ps.zip us)) (len : ∀ vs H Q E, sp vs H Q E → vs.length = ps.length)
    (hbody : ∀ (cdv : Value) (A : Around) (outer : List Env) (s : Shared) (H : Hp) (vs : List V) (Q : VK) (E : XK), Room k (A.deeper (envOfC qual scope s.heap.objs.size f cdv)) → sp vs H Q E →
      ∃ t, PSs (cxOf CX0 P w K mg base N qual scope f cdv A outer s H E).nox body t ∧ t { nx := fun _ H' => Q .non H', rt := Q } (start N vs) H) : Met P w K mg base CX0 (k + 1) C m sp := by
  obtain ⟨fd, F⟩ := F
  exact ⟨f, fd, ps, c, me, fn_ok0 F S len hbody, F.bindsN hb⟩
theorem metX {m qual : Str} {C : Addr} {params : Arguments} {body : List Stmt} {scope : Scope} {f : Addr} {N ps : List Str} {k : Nat} {sp : Sp} (c : Cls K C) (me : Meth K C m f) (F : ∃ fd, FunD K m qual params body scope [] [] f fd) (S : FnScope N ps scope)
    (hb : ∀ (kV doc pm : Value) (an : Option Addr) (cdv ct : Value) (us : List Value), us.length = ps.length → bindArgs (PySem.W.fnOf m qual params body scope .none kV doc pm an cdv ct) ⟨us, []⟩ = pure (ps.zip us)) (len : ∀ vs H Q E, sp vs H Q E → vs.length = ps.length)
    (hbody : ∀ (cdv : Value) (A : Around) (outer : List Env) (s : Shared) (H : Hp) (vs : List V) (Q : VK) (E : XK), Room k (A.deeper (envOfC qual scope s.heap.objs.size f cdv)) → sp vs H Q E →
      ∃ t, PSs (cxOf (L2.CX P w) P w K mg base N qual scope f cdv A outer s H E) body t ∧ t { nx := fun _ H' => Q .non H', rt := Q } (start N vs) H) : Met P w K mg base (L2.CX P w) (k + 1) C m sp := by
  obtain ⟨fd, F⟩ := F
  exact ⟨f, fd, ps, c, me, F.ok S len hbody, F.bindsN hb⟩
end
section
variable {X : Cx} {CX : CXT} {k j : Nat} {C : Addr} {x m : Str} {sp : Sp} {E : XK} {p pos apos : Pos} {e o : Expr} {es : List Expr} {ta : TE} {t : TA}
theorem pe_mx {pl : Sem Bool} (c : Met X.prog X.w X.K X.mg X.base CX k C m sp) (hr : Room j X.A) (hk : k ≤ j) (hx : Passes CX X E) (he : PE X o ta) (ha : PA X (e :: es) t)
    (hst : starEach (e :: es) X.env = (false, eval e X.env) :: starEach es X.env := by rfl) (hpl : (backTo pos (starEach es X.env)).any (·.1) = false := by rfl)
    (ht : eval (.Call (.Attribute o m apos) (e :: es) [] pos) X.env = (do
      let ov ← eval o X.env
      standAt apos.atName
      let (f, first) ← holding [ov] (getMethod ov m pl)
      callWith pos f first (backTo pos (starEach (e :: es) X.env)) (backToKw pos (keywordEach [] X.env))) := by rfl) :
    PE X (.Call (.Attribute o m apos) (e :: es) [] pos) (tMeth C m sp [] E ta t) := by
  obtain ⟨f, fd, ps, hc, hm, F, b⟩ := c.ex
  exact pe_meth (pl := pl) he hc hm F (hr.mono hk) b .nil hx ha hst hpl ht
theorem pe_mx0 {pl : Sem Bool} (c : Met X.prog X.w X.K X.mg X.base CX k C m sp) (hr : Room j X.A) (hk : k ≤ j) (hx : Passes CX X E) (he : PE X o ta)
    (ht : eval (.Call (.Attribute o m apos) [] [] pos) X.env = (do
      let ov ← eval o X.env
      standAt apos.atName
      let (f, first) ← holding [ov] (getMethod ov m pl)
      callWith pos f first (backTo pos (starEach [] X.env)) (backToKw pos (keywordEach [] X.env))) := by rfl) :
    PE X (.Call (.Attribute o m apos) [] [] pos) (tMeth C m sp [] E ta tNil) := by
  obtain ⟨f, fd, ps, hc, hm, F, b⟩ := c.ex
  exact pe_meth0 (pl := pl) he hc hm F (hr.mono hk) b .nil hx ht
end
/-- all but x is as it was -/
def Kp (x : Addr) (H H' : Hp) : Prop := ∀ b o, b ≠ x → H b = some o → H' b = some o
theorem Kp.refl (x : Addr) (H : Hp) : Kp x H H := fun _ _ _ h => h
theorem Kp.trans {x : Addr} {H H1 H2 : Hp} (a : Kp x H H1) (b : Kp x H1 H2) : Kp x H H2 := fun c o n h => b c o n (a c o n h)
theorem Kp.same {x : Addr} {H H1 : Hp} (a : Same H H1) : Kp x H H1 := fun c o _ h => a c o h
theorem Kp.upd {x : Addr} {H H1 : Hp} {o : HO} (a : Kp x H H1) : Kp x H (upd H1 x o) := fun c u n h => by rw [upd_ne n]; exact a c u n h
theorem Kp.new {x : Addr} {H H1 : Hp} {p : Addr} {o : HO} (a : Kp x H H1) (h : H1 p = none) : Kp x H (L2.upd H1 p o) := fun c u n e => by rw [upd_ne (ne_of_none (a c u n e) h)]; exact a c u n e

section
open SX (S S_len S_cat S_inj)
def letters : List Nat := [97, 98, 99, 100, 101, 102, 103, 104, 105, 106, 107, 108, 109, 110, 111, 112, 113, 114, 115, 116, 117, 118, 119, 120, 121, 122]
def digs : List Nat := [48, 49, 50, 51, 52, 53, 54, 55, 56, 57]
theorem mem_letters (c : Nat) : decide (c ∈ letters) = isL c := by
  have : c ∈ letters ↔ 97 ≤ c ∧ c ≤ 122 := by simp [letters]; omega
  simp only [isL, ← Bool.decide_and, this]
theorem mem_digs (c : Nat) : decide (c ∈ digs) = isD c := by
  have : c ∈ digs ↔ 48 ≤ c ∧ c ≤ 57 := by simp [digs]; omega
  simp only [isD, ← Bool.decide_and, this]
theorem k0 : (Str.ofString "abcdefghijklmnopqrstuvwxyz") = S letters := by decide +kernel
theorem k1 : (Str.ofString "0123456789") = S digs := by decide +kernel
theorem k2 : (Str.ofString "()[],;/*!") = S signs := by decide +kernel
def lawSigns : List Nat := [32, 33, 34, 35, 36, 38, 39, 40, 41, 42, 43, 44, 45, 46, 47, 48, 49, 50, 51, 52, 53, 54, 55, 56, 57, 58, 59, 60, 61, 62, 63, 64, 65, 66, 67, 68, 69, 70, 71, 72, 73, 74, 75, 76, 77, 78, 79, 80, 81, 82, 83, 84, 85, 86, 87, 88, 89, 90, 91, 92, 93, 94, 95, 96, 97, 98, 99, 100, 101, 102, 103, 104, 105, 106, 107, 108, 109, 110, 111, 112, 113, 114, 115, 116, 117, 118, 119, 120, 121, 122, 123, 124, 125, 126, 9]
theorem k3 : (Str.ofString " !\"#$&'()*+,-./0123456789:;<=>?@ABCDEFGHIJKLMNOPQRSTUVWXYZ[\\]^_`abcdefghijklmnopqrstuvwxyz{|}~\t") = S lawSigns := by decide +kernel
theorem k4 : (Str.ofString "") = S [] := by decide +kernel
theorem k5 : (Str.ofString "integer") = S [105, 110, 116, 101, 103, 101, 114] := by decide +kernel
theorem k6 : (Str.ofString "\"") = S [34] := by decide +kernel
theorem k7 : (Str.ofString "quoted") = S [113, 117, 111, 116, 101, 100] := by decide +kernel
theorem k8 : (Str.ofString " ") = S [32] := by decide +kernel
theorem k9 : (Str.ofString "(") = S [40] := by decide +kernel
theorem k10 : (Str.ofString ")") = S [41] := by decide +kernel
theorem k11 : (Str.ofString "scan") = S [115, 99, 97, 110] := by decide +kernel
theorem k12 : (Str.ofString "!") = S [33] := by decide +kernel
theorem k13 : (Str.ofString "[") = S [91] := by decide +kernel
theorem k14 : (Str.ofString "]") = S [93] := by decide +kernel
theorem k15 : (Str.ofString "join") = S [106, 111, 105, 110] := by decide +kernel
theorem k16 : (Str.ofString "end") = S [101, 110, 100] := by decide +kernel
theorem k17 : (Str.ofString "var") = S [118, 97, 114] := by decide +kernel
theorem k18 : (Str.ofString "project") = S [112, 114, 111, 106, 101, 99, 116] := by decide +kernel
theorem k19 : (Str.ofString ",") = S [44] := by decide +kernel
theorem k20 : (Str.ofString ";") = S [59] := by decide +kernel
theorem k21 : (Str.ofString "/") = S [47] := by decide +kernel
theorem k22 : (Str.ofString "*") = S [42] := by decide +kernel
theorem k23 : (Str.ofString "table") = S [116, 97, 98, 108, 101] := by decide +kernel
theorem k24 : (Str.ofString "none") = S [110, 111, 110, 101] := by decide +kernel
theorem k25 : (Str.ofString "\"\"") = S [34, 34] := by decide +kernel
theorem k26 : (Str.ofString "\"A\"") = S [34, 65, 34] := by decide +kernel
theorem k27 : (Str.ofString "A") = S [65] := by decide +kernel
theorem k28 : (Str.ofString "-") = S [45] := by decide +kernel
theorem k29 : (Str.ofString "good") = S [103, 111, 111, 100] := by decide +kernel
theorem k30 : (Str.ofString "the text cannot be read") = S [116, 104, 101, 32, 116, 101, 120, 116, 32, 99, 97, 110, 110, 111, 116, 32, 98, 101, 32, 114, 101, 97, 100] := by decide +kernel
theorem k31 : (Str.ofString "word") = S [119, 111, 114, 100] := by decide +kernel
theorem k32 : (Str.ofString "value") = S [118, 97, 108, 117, 101] := by decide +kernel
theorem k33 : (Str.ofString "00") = S [48, 48] := by decide +kernel
theorem k34 : (Str.ofString "07") = S [48, 55] := by decide +kernel
theorem k35 : (Str.ofString "-0") = S [45, 48] := by decide +kernel
theorem k36 : (Str.ofString "-07") = S [45, 48, 55] := by decide +kernel
theorem k37 : (Str.ofString "0") = S [48] := by decide +kernel
theorem k38 : (Str.ofString "-1") = S [45, 49] := by decide +kernel
theorem k39 : (Str.ofString "8") = S [56] := by decide +kernel
theorem k40 : (Str.ofString "9") = S [57] := by decide +kernel
theorem k41 : (Str.ofString "1") = S [49] := by decide +kernel
theorem k42 : (Str.ofString "2") = S [50] := by decide +kernel
theorem k43 : (Str.ofString "x") = S [120] := by decide +kernel
theorem k44 : (Str.ofString "\"x\"") = S [34, 120, 34] := by decide +kernel
theorem k45 : (Str.ofString "   ") = S [32, 32, 32] := by decide +kernel
theorem k46 : (Str.ofString "bad") = S [98, 97, 100] := by decide +kernel
theorem k47 : (Str.ofString "\n") = S [10] := by decide +kernel
theorem k48 : (Str.ofString "z") = S [122] := by decide +kernel
theorem k49 : (Str.ofString "zzzzzzz") = S [122, 122, 122, 122, 122, 122, 122] := by decide +kernel
theorem k50 : (Str.ofString "  ") = S [32, 32] := by decide +kernel
theorem k51 : (Str.ofString "abc") = S [97, 98, 99] := by decide +kernel
theorem k52 : (Str.ofString "a") = S [97] := by decide +kernel
theorem k53 : (Str.ofString "abcd") = S [97, 98, 99, 100] := by decide +kernel

theorem cast1 (a : Nat) : (a : Int) + 1 = ((a + 1 : Nat) : Int) := rfl
theorem cut2 {l : List Nat} {a b : Nat} (h : a ≤ b) (hb : b ≤ l.length) : cutS (S l) (some (a : Int)) (some (b : Int)) = S ((l.drop a).take (b - a)) := by
  unfold cutS
  rw [HT.sIx_nat, HT.sIx_nat, S_len, Nat.min_eq_left hb, Nat.min_eq_left (by omega)]
theorem cut_from {l : List Nat} {a : Nat} (h : a ≤ l.length) : cutS (S l) (some (a : Int)) none = S (l.drop a) := by
  unfold cutS
  rw [HT.sIx_nat, HT.sIx_none, S_len, Nat.min_eq_left h]
  exact congrArg S (List.take_of_length_le (by rw [List.length_drop]; exact Nat.le_refl _))
theorem cut_to {l : List Nat} {b : Nat} (h : b ≤ l.length) : cutS (S l) none (some (b : Int)) = S (l.take b) := by
  unfold cutS
  rw [HT.sIx_nat, HT.sIx_none, S_len, Nat.min_eq_left h]
  exact congrArg S (by rw [List.drop_zero, Nat.sub_zero])
theorem sc_ii (a b : Int) : (scal (.int a) (.int b) = true) = True := eq_true rfl
theorem sc_ss (a b : Str) : (scal (.str a) (.str b) = true) = True := eq_true rfl
theorem sc_bb (a b : Bool) : (scal (.bl a) (.bl b) = true) = True := eq_true rfl
theorem sc_nn : (scal .non .non = true) = True := eq_true rfl
theorem sc_is (a : Int) (b : Str) : (scal (.int a) (.str b) = true) = True := eq_true rfl
theorem sc_si (a : Str) (b : Int) : (scal (.str a) (.int b) = true) = True := eq_true rfl
theorem sc_ns (b : Str) : (scal .non (.str b) = true) = True := eq_true rfl
theorem sc_sn (b : Str) : (scal (.str b) .non = true) = True := eq_true rfl
theorem sc_ni (b : Int) : (scal .non (.int b) = true) = True := eq_true rfl
theorem sc_in (b : Int) : (scal (.int b) .non = true) = True := eq_true rfl
theorem S_eq (a b : List Nat) : (S a = S b) = (a = b) := propext ⟨S_inj, fun e => by rw [e]⟩
theorem boot_int_ : bootBuiltins "int" = some (.type "int") := by decide +kernel
theorem boot_str_ : bootBuiltins "str" = some (.type "str") := by decide +kernel
theorem boot_list_ : bootBuiltins "list" = some (.type "list") := by decide +kernel
theorem boot_tuple_ : bootBuiltins "tuple" = some (.type "tuple") := by decide +kernel
theorem boot_sorted_ : bootBuiltins "sorted" = some (.builtin "sorted") := by decide +kernel
theorem boot_isinstance_ : bootBuiltins "isinstance" = some (.builtin "isinstance") := by decide +kernel
theorem le_line {n : Nat} (h : n ≤ 10000000) : n ≤ sizeLine := Nat.le_trans h (by decide)
theorem lt_line {n : Nat} (h : n < 10000000) : n < sizeLine := Nat.lt_of_lt_of_le h (by decide)
theorem z0 : (0 ≤ sizeLine) = True := eq_true (le_line (by decide))
theorem z1 : (1 ≤ sizeLine) = True := eq_true (le_line (by decide))
theorem z2 : (2 ≤ sizeLine) = True := eq_true (le_line (by decide))
theorem z3 : (3 ≤ sizeLine) = True := eq_true (le_line (by decide))
theorem z4 : (4 ≤ sizeLine) = True := eq_true (le_line (by decide))
theorem z5 : (5 ≤ sizeLine) = True := eq_true (le_line (by decide))
theorem opq3 (F : Nat → L2.St → Hp → Prop) : ∃ W : Nat → L2.St → Hp → Prop, ∀ m σ H, W m σ H ↔ F m σ H := ⟨F, fun _ _ _ => Iff.rfl⟩
theorem opq2 (F : Nat → Hp → Prop) : ∃ W : Nat → Hp → Prop, ∀ m H, W m H ↔ F m H := ⟨F, fun _ _ => Iff.rfl⟩
theorem tyL {K : PySem.W.Frag} {H : Hp} {p : Addr} {xs : List V} (h : H p = some (.lst xs)) : tyV K "list" (.ref p) H := Or.inl ⟨rfl, _, Or.inl (Or.inl h)⟩
variable {X : Cx} {pos : Pos}
theorem pe_LETTERS (T : Txt X.K X.mg) (hg : Gl X "LETTERS" := by rfl) : PE X (.Name "LETTERS" pos) (tC (.str (S letters))) := by
  obtain ⟨t, h⟩ := T.c_LETTERS
  rw [k0] at h
  exact pe_glob hg h ⟨t, rfl⟩
theorem pe_DIGITS (T : Txt X.K X.mg) (hg : Gl X "DIGITS" := by rfl) : PE X (.Name "DIGITS" pos) (tC (.str (S digs))) := by
  obtain ⟨t, h⟩ := T.c_DIGITS
  rw [k1] at h
  exact pe_glob hg h ⟨t, rfl⟩
theorem pe_SIGNS (T : Txt X.K X.mg) (hg : Gl X "SIGNS" := by rfl) : PE X (.Name "SIGNS" pos) (tC (.str (S signs))) := by
  obtain ⟨t, h⟩ := T.c_SIGNS
  rw [k2] at h
  exact pe_glob hg h ⟨t, rfl⟩
end
end K26

end
section
set_option linter.all false
set_option maxRecDepth 100000
set_option maxHeartbeats 4000000
namespace K26
open PySem PySem.W PySem.Calls PyProof.Rows PySem.HandSPX
/-- the file's name as the row has it -/
def mainFile : Str := PySem.Challenge.pw_rightchance_k26_whole_texts_of_plans.main.file
abbrev bParams : Arguments := L2.defArgs s_BadText_init
abbrev bBody : List Stmt := L2.defBody s_BadText_init
abbrev bScope : Scope := L2.defScope s_BadText_init
/-- what the written part says of BadText, at C, and of its __init__, at fI -/
structure BadTxt (K : Frag) (mg : Str → Option Value) (C fI : Addr) : Prop where
  gC : mg "BadText" = some (.ref C)
  cls : ∃ nm q N bs bm sn sub ab col dd k0 k1 k2 k3 k5, K.lookup C = some (excClassObj nm q C N bs bm true sn sub ab col dd k0 k1 k2 k3 k5 "ValueError.__new__") ∧ refsVE bm = true
  sa : findIn K (.ref C) "__setattr__" = some (some (.builtin "object.__setattr__"))
  ga : findIn K (.ref C) "__getattribute__" = some (some (.builtin "BaseException.__getattribute__"))
  gg : findIn K (.ref C) "__getattr__" = some none
  noL : findIn K (.ref C) "line" = some none
  noA : findIn K (.ref C) "at" = some none
  iC : findIn K (.ref C) "__init__" = some (some (.ref fI))
  tC : typeIn K (.ref fI) = some (.type "function")
  kC : keepIn K (.ref C) = true
  exC : subIn K (.ref C) (.type "BaseException") = some true
  tyC : typeIn K (.ref C) = some (.type "type")
  hdC : hasDictIn K C = true
  te : exmOne K (.ref C) (.ref C) = some true
  sup : ks_superIn K C C "__init__" = some (some (.builtin "ValueError.__init__"))
  opq : nsIn K cStatics "thirdparty.any" = some none
  subV : subIn K (.ref C) (.type "ValueError") = some true
  mroS : mroIn K C (.ref C) = some true
  nsup : mg "super" = none
  fn : ∃ (oc : Value) (od : Option Addr) (dV kV doc pm : Value) (an : Option Addr) (cda cc : Addr) (ct : Value) (osl : Array (Option Value)) (ccl : Value) (cdd : Option Addr) (ccs : Array (Option Value)) (vs : Array Value) (tf : Tok) (cl : Value) (cld : Option Addr) (csl : Array (Option Value)),
    K.lookup fI = some ⟨oc, od, .func (ksFn "__init__" "BadText.__init__" bParams bBody bScope dV kV doc pm an (.ref cda) ct cc), osl⟩ ∧ dV = .none ∧ codeIn K (.ref cda) "BadText.__init__" = true ∧ K.lookup cda = some ⟨ccl, cdd, .fields vs, ccs⟩ ∧ vs[2]? = some (.str mainFile tf) ∧
    K.lookup cc = some ⟨cl, cld, .cell (some (.ref C)), csl⟩
theorem one_size (v : Value) : [v].length ≤ sizeLine := by
  rw [sizeLine_eq]
  exact (by decide : 1 ≤ 16777216)
/-- what __init__ leaves of a fresh exception at x -/
structure InitEnd (h h' : Heap) (x C dx t1 : Addr) (v1 v2 : Value) : Prop where
  keep : ∀ b o, b ≠ x → h.get? b = some o → h'.get? b = some o
  obj : h'.get? x = some { cls := .ref C, dict := some dx, data := .fields #[.ref t1, .none, .none, .none, .bool false, .none] }
  dbig : h.objs.size ≤ dx
  dne : dx ≠ x
  ns : h'.Ns1 dx (fun y => if y = "at" then some v2 else if y = "line" then some v1 else none)
section
variable {prog : Program} {w : World} {A : Around} {E : Value → Shared → Prop} {h : Heap} {g : Array GenState} {d : Drawn} {t : Nat} {os : OsState}
variable {nm q : Str} {C N : Addr} {bs bm : List Value} {hdct : Bool} {sn : List Str} {sub : List Value} {ab : Bool} {col : Option Bool} {dd : Option Addr} {k0 k1 k2 k3 k5 : Option Value}
/-- ValueError.__init__ bound to the fresh exception at e, called: its arguments are laid anew -/
theorem call_mw {u e t0 : Addr} {rest : List Value} {Q : Value → Shared → Prop}
    (hC : h.get? C = some (excClassObj nm q C N bs bm hdct sn sub ab col dd k0 k1 k2 k3 k5 "ValueError.__new__")) (he : h.get? e = some (excO C t0)) (hu : h.get? u = some (kxs_mw "ValueError.__init__" e)) (hrest : rest.length ≤ sizeLine)
    (hq : ∀ h' t1, (∀ b o, b ≠ e → h.get? b = some o → h'.get? b = some o) → h'.get? e = some (excO C t1) → Q .none ⟨h', g, d, t, os⟩) :
    wpAny (model prog w) A (call (.ref u) rest) Q E ⟨h, g, d, t, os⟩ := by
  refine wpAny_call (codeAny_of_tree ?_)
  show wpAny _ A.in1 (callAny (.ref u) ⟨rest, []⟩) _ _ _
  simp only [callAny]
  refine wpAny_bind (wpAny_load hu ?_)
  simp only [kxs_mw, show (Value.type "method-wrapper" == Value.type "method" || Value.type "method-wrapper" == Value.type "builtin_function_or_method" || Value.type "method-wrapper" == Value.type "method-wrapper") = true by decide, if_true]
  refine KFB.if_so (by decide) ?_
  refine wpAny_bind (check_bound_init F.excBase_ValueError.toExcCallFacts hC he rfl ?_)
  refine wpAny_bind (wpAny_pure (wpAny_pure ?_))
  refine ⟨plainId_quiet F.excBase_ValueError.init.plain _, codeAny_builtin F.excBase_ValueError.initEntry ?_⟩
  exact exc_init_tree (cls := .ref C) (t0 := t0) (dv := none) (c2 := .none) (c3 := .none) (b4 := .bool false) he hrest fun h' k e' _ => hq h' _ k e'
end
section
variable {prog : Program} {w : World} {A : Around} {E : Value → Shared → Prop} {h₁ : Heap} {g : Array GenState} {d : Drawn} {t : Nat} {os : OsState} {K : Frag} {mg mb m : Str → Option Value} {C fI : Addr}
/-- the call super().__init__('..') -/
def superCall : Expr := match bBody with
  | .Expr e _ :: _ => e
  | _ => .Constant .none 0 ⟨0, 0, 0, 0⟩
theorem sup_part (T : BadTxt K mg C fI) {kV doc pm ct : Value} {an : Option Addr} {cda cc L x t0 : Addr} {oc cl ccl : Value} {od cld cdd : Option Addr} {osl csl ccs : Array (Option Value)} {vs : Array Value} {tf : Tok}
    (X₁ : K.In h₁) (G₁ : h₁.Ns mainGlobals mg) (B₁ : h₁.Ns builtinsNs mb) (hB : mb "super" = some (.type "super")) (hmain : (prog.main.file == mainFile) = true) (htop : (prog.main.scope.names.lookup ("super" : Str)).isSome = false)
    (hns : h₁.Ns L m) (hm : m "self" = some (.ref x)) (hx₁ : h₁.get? x = some (excO C t0))
    (ho : K.lookup fI = some ⟨oc, od, .func (ksFn "__init__" "BadText.__init__" bParams bBody bScope .none kV doc pm an (.ref cda) ct cc), osl⟩) (hcda : K.lookup cda = some ⟨ccl, cdd, .fields vs, ccs⟩) (hvs : vs[2]? = some (.str mainFile tf)) (hcc : K.lookup cc = some ⟨cl, cld, .cell (some (.ref C)), csl⟩)
    {Q : Value → Shared → Prop} (hq : ∀ h' tk t1, (∀ b o, b ≠ x → h₁.get? b = some o → h'.get? b = some o) → h'.get? x = some (excO C t1) → Q .none ⟨h', g, d, tk, os⟩) :
    PySem.wpAt (model prog w) A (.func bBody (ksEnv "BadText.__init__" bScope L fI (.ref cda) cc)) (eval superCall (ksEnv "BadText.__init__" bScope L fI (.ref cda) cc)) Q E ⟨h₁, g, d, t, os⟩ := by
  obtain ⟨nm, q, N, bs, bm, sn, sub, ab, col, dd, k0, k1, k2, k3, k5, hC, hbm⟩ := T.cls
  have hcl : clsIn K C = some { name := nm, bases := bs, mro := .ref C :: bm, ns := N, qualname := q, hasDict := true, slotNames := sn, subclasses := sub, abstract := ab, collection := col, hasDel := false } := by unfold clsIn; rw [hC] <;> rfl
  have hsup : alongIn K "__init__" (((Value.ref C :: bm).dropWhile (· != .ref C)).drop 1) = some (some (.builtin "ValueError.__init__")) := by
    have z := T.sup
    unfold ks_superIn at z
    rw [hcl] at z
    exact z
  have hC₁ := X₁ _ _ hC
  refine ks_wpAt_MethodCall ?_
  refine ks_wpAt_super_base (f := fI) (cc := cda) (vs := vs) (file := mainFile) (tf := tf) (ar := { arg := "self", annotation := none, pos := _ }) rfl rfl (by decide) rfl (X₁ _ _ ho) rfl rfl rfl (X₁ _ _ hcda) rfl hvs hmain htop ?_
  refine ks_loadName_global rfl rfl (loadGlobal_builtin G₁ T.nsup B₁ hB ⟨rfl, ?_⟩)
  refine wpAny_loadName_free rfl rfl rfl ⟨_, X₁ _ _ hcc, rfl⟩ ?_
  refine wpAny_loadName_local rfl rfl (m := m) hns hm ?_
  refine ks_wpAny_isType_cls hC₁ rfl ⟨rfl, ?_⟩
  refine ks_wpAny_call_super hC₁ rfl hx₁ rfl (fun c e => by cases e) (looks_mroIn X₁ T.mroS) (fun h₂ hso k₂ => ?_)
  have X₂ : K.In h₂ := X₁.keeps k₂
  have hx₂ := k₂ _ _ hx₁
  have I₂ : InstAt h₂ x (excO C t0) C none := ⟨hx₂, rfl, rfl, trivial⟩
  have hI : Looks (model prog w) h₂ (isInstance (.ref x) (.type "ValueError")) true := I₂.type.andThen (looks_subIn X₂ T.subV)
  refine kxs_getMethod kxs_ValueError hso (looks_opaque X₂ T.opq) (l₀ := .ref C :: bm) (fun A Q E s k q => wpAny_bind ((looks_clsIn X₂ hcl) A _ E s k (wpAny_pure q))) rfl X₂ hsup hI (ks_ne X₂ I₂ hcl) (by decide) ?_
  have k₃ : ∀ b o, h₂.get? b = some o → (h₂.push (kxs_mw "ValueError.__init__" x)).get? b = some o := fun b o e => Heap.get?_push_of_some _ e
  have hu : (h₂.push (kxs_mw "ValueError.__init__" x)).get? h₂.objs.size = some (kxs_mw "ValueError.__init__" x) := Heap.get?_push_at rfl rfl
  refine kxs_callWith (i := "ValueError.__init__") (x := x) rfl (evalArgs_plain (Calls.spliced_cons ?_))
  show wpAny _ _ (eval (.Constant (.str (Str.ofString "the text cannot be read")) 0 ⟨12, 25, 12, 50⟩) _) _ _ _
  refine Calls.Constant_str (Calls.spliced_nil ⟨hu, ?_⟩)
  refine call_mw (X₂.keeps k₃ _ _ hC) (k₃ _ _ hx₂) hu (one_size _) fun h' t1 k' hx' => ?_
  exact hq h' _ t1 (fun b o hb e => k' b o hb (k₃ _ _ (k₂ _ _ e))) hx'
end
section
variable {prog : Program} {w : World} {A : Around} {E : Value → Shared → Prop} {R : Result → Shared → Prop} {s : Shared} {K : Frag} {mg mb : Str → Option Value} {C fI : Addr}
theorem bad_init (T : BadTxt K mg C fI) {x t0 : Addr} {v1 v2 : Value} (X : K.In s.heap) (G : s.heap.Ns mainGlobals mg) (B : s.heap.Ns builtinsNs mb) (hB : mb "super" = some (.type "super")) (hmain : (prog.main.file == mainFile) = true) (htop : (prog.main.scope.names.lookup ("super" : Str)).isSome = false)
    (hlim : s.heap.NoLimit) (hx : s.heap.get? x = some (excO C t0)) (hnx : K.lookup x = none) (hroom : A.depth < recursionLimit)
    (hq : ∀ h' tk dx t1, InitEnd s.heap h' x C dx t1 v1 v2 → R (.ok (.ret .none)) { s with heap := h', toks := tk }) :
    codeAny (model prog w) A (.call (.ref fI) ⟨[.ref x, v1, v2], []⟩) R s := by
  obtain ⟨oc, od, dV, kV, doc, pm, an, cda, cc, ct, osl, ccl, cdd, ccs, vs, tf, cl, cld, csl, ho, hdV, hcd, hcda, hvs, hcc⟩ := T.fn
  subst hdV
  obtain ⟨nm, q, N, bs, bm, sn, sub, ab, col, dd, k0, k1, k2, k3, k5, hC, hbm⟩ := T.cls
  have hcl : clsIn K C = some { name := nm, bases := bs, mro := .ref C :: bm, ns := N, qualname := q, hasDict := true, slotNames := sn, subclasses := sub, abstract := ab, collection := col, hasDel := false } := by unfold clsIn; rw [hC] <;> rfl
  refine ks_codeAny_call_defAt (fd := ksFn "__init__" "BadText.__init__" bParams bBody bScope .none kV doc pm an (.ref cda) ct cc) (body := bBody) (binds := [("self", .ref x), ("line", v1), ("at", v2)]) hroom (X _ _ ho) rfl hlim (codeRec_of X hcd) rfl (BindsTo.of_eq rfl) (show ∀ y ∈ bScope.names, y.2 ≠ .cell by decide +kernel) (fun y hy => ?_) (fun h₁ hns hk₁ => ?_) rfl rfl rfl
  · show bScope.names.lookup y.1 = some .local
    rcases List.mem_cons.mp hy with e | hy
    · subst e; exact (show bScope.names.lookup ("self" : Str) = some NameKind.local by decide +kernel)
    rcases List.mem_cons.mp hy with e | hy
    · subst e; exact (show bScope.names.lookup ("line" : Str) = some NameKind.local by decide +kernel)
    rcases List.mem_cons.mp hy with e | hy
    · subst e; exact (show bScope.names.lookup ("at" : Str) = some NameKind.local by decide +kernel)
    · cases hy
  have X₁ : K.In h₁ := X.keeps hk₁
  have hx₁ := hk₁ _ _ hx
  have z₁ : s.heap.objs.size ≤ h₁.objs.size := Nat.le_of_lt hns.lt
  have xL : s.heap.objs.size ≠ x := Nat.ne_of_gt (Heap.lt_size hx)
  obtain ⟨hp, g, d, tk, os⟩ := s
  show PySem.wpAt _ _ _ (execs bBody _) _ _ _
  refine ks_wpAt_execs_cons (ks_wpAt_Expr_any (sup_part T X₁ (G.keeps hk₁) (B.keeps hk₁) hB hmain htop hns rfl hx₁ ho hcda hvs hcc fun h₂ tk₂ t1 k₂ hx₂ => ?_))
  have X₂ : K.In h₂ := fun b o e => k₂ b o (fun z => by rw [z, hnx] at e; cases e) (X₁ b o e)
  have hns₂ : h₂.Ns hp.objs.size _ := hns.at fun o e => k₂ _ o xL e
  show PySem.wpAt _ _ _ (execs _ _) _ _ _
  refine PySem.wpAt_of_wpAny (wpAny_execs_cons (plainObj_wpAny_Assign_Attribute ?_))
  refine ESX.ldL hns₂ (by rfl) (ESX.ldL hns₂ (by rfl) ?_)
  refine set_plain X₂ (ox := excO C t1) (od := none) ⟨hx₂, rfl, rfl, trivial⟩ T.sa ?_
  refine exc_osa X₂ hx₂ hcl (show refsVE (.ref C :: bm) = true from hbm) rfl T.noL (fun h₃ tk₃ dx k₃ dn dne hx₃ hn₃ => ?_)
  have z₂ : hp.objs.size < h₂.objs.size := hns₂.lt
  have X₃ : K.In h₃ := fun b o e => k₃ b o (fun z => by rw [z, hnx] at e; cases e) (X₂ b o e)
  have hns₃ : h₃.Ns hp.objs.size _ := hns₂.at fun o e => k₃ _ o xL e
  show wpAny _ _ (execs _ _) _ _ _
  refine wpAny_execs_cons (plainObj_wpAny_Assign_Attribute ?_)
  refine ESX.ldL hns₃ (by rfl) (ESX.ldL hns₃ (by rfl) ?_)
  have hw : Within (fun y => if y = ("line" : Str) then some v1 else none) ["line"] := fun y hy => by
    by_cases e : y = "line"
    · rw [e]; exact List.mem_cons_self
    · exact absurd (if_neg e) hy
  obtain ⟨oD, esD, epD, hoD, hdD, _⟩ := hn₃.count hw
  refine set_plain X₃ (ox := { cls := .ref C, dict := some dx, data := .fields #[.ref t1, .none, .none, .none, .bool false, .none] }) (od := some oD) ⟨hx₃, rfl, rfl, hoD⟩ T.sa ?_
  refine OEX.osa_old X₃ hx₃ hn₃ hw (by decide) hcl (show refsVE (.ref C :: bm) = true from hbm) rfl T.noA (fun h₄ tk₄ k₄ hn₄ => ?_)
  show wpAny _ _ (execs [] _) _ _ _
  refine wpAny_execs_nil (hq h₄ tk₄ dx t1 ⟨fun b o hb e => ?_, k₄ _ _ (Ne.symm dne) hx₃, ?_, dne, hn₄⟩)
  · have e1 := k₃ b o hb (k₂ b o hb (hk₁ b o e))
    refine k₄ b o (fun z => ?_) e1
    have l1 := Heap.lt_size (hk₁ b o e)
    rw [z] at e
    have l2 := Heap.lt_size e
    exact absurd (Nat.lt_of_lt_of_le l2 (Nat.le_trans (Nat.le_of_lt z₂) dn)) (Nat.lt_irrefl _)
  · exact Nat.le_trans (Nat.le_of_lt z₂) dn
/-- a made BadText -/
structure OwnMade (h h' : Heap) (e C d : Addr) (v1 v2 : Value) : Prop where
  keep : ∀ b o, h.get? b = some o → h'.get? b = some o
  new : h.objs.size ≤ e
  obj : ∃ oe vs, h'.get? e = some oe ∧ oe.cls = .ref C ∧ oe.dict = some d ∧ oe.data = .fields vs ∧ vs[1]? = some .none
  dbig : h.objs.size ≤ d
  dne : d ≠ e
  ns : h'.Ns1 d (fun y => if y = "at" then some v2 else if y = "line" then some v1 else none)
theorem bad_made (T : BadTxt K mg C fI) {v1 v2 : Value} (X : K.In s.heap) (G : s.heap.Ns mainGlobals mg) (B : s.heap.Ns builtinsNs mb) (hB : mb "super" = some (.type "super")) (hmain : (prog.main.file == mainFile) = true) (htop : (prog.main.scope.names.lookup ("super" : Str)).isSome = false)
    (hlim : s.heap.NoLimit) (hroom : A.depth + 1 < recursionLimit)
    (hq : ∀ h' tk e d, OwnMade s.heap h' e C d v1 v2 → R (.ok (.ret (.ref e))) { s with heap := h', toks := tk }) :
    codeAny (model prog w) A (.call (.ref C) ⟨[v1, v2], []⟩) R s := by
  obtain ⟨nm, q, N, bs, bm, sn, sub, ab, col, dd, k0, k1, k2, k3, k5, hC, hbm⟩ := T.cls
  obtain ⟨hp, g, dr, tk, os⟩ := s
  have k : ∀ b o, hp.get? b = some o → ((hp.push (kdv_tup [v1, v2])).push (excO C hp.objs.size)).get? b = some o := fun b o e => Heap.get?_push_of_some _ (Heap.get?_push_of_some _ e)
  have hget : ((hp.push (kdv_tup [v1, v2])).push (excO C hp.objs.size)).get? (hp.objs.size + 1) = some (excO C hp.objs.size) := by heap_get
  have hnx : K.lookup (hp.objs.size + 1) = none := by
    cases e : K.lookup (hp.objs.size + 1) with
    | none => rfl
    | some o =>
      have z : hp.get? (hp.objs.size + 1) = some o := X _ _ e
      exact absurd (Nat.lt_of_succ_lt (Heap.lt_size z)) (Nat.lt_irrefl _)
  refine call_own F.excBase_ValueError (fun X => refsVE_contains X bm hbm) (X _ _ hC) (looks_findIn X T.iC) (fun self => bind_fn X self T.tC) (by show 2 ≤ sizeLine; decide) ?_
  refine bad_init (s := ⟨(hp.push (kdv_tup [v1, v2])).push (excO C hp.objs.size), g, dr, tk, os⟩) T (X.keeps k) (G.keeps k) (B.keeps k) hB hmain htop (hlim.keeps k) hget hnx ?_ fun h' tk' dx t1 ⟨k', hx, dn, dne, hns⟩ => ?_
  · show A.depth + 1 < recursionLimit
    exact hroom
  · have old : ∀ b o, hp.get? b = some o → h'.get? b = some o := fun b o e => k' b o (Nat.ne_of_lt (Nat.lt_succ_of_lt (Heap.lt_size e))) (k b o e)
    have z : hp.objs.size + 1 + 1 ≤ dx := by
      first
        | (simpa only [Heap.size_push] using dn)
        | exact dn
        | (have q := dn; rw [Heap.size_push, Heap.size_push] at q; exact q)
    exact ⟨rfl, hq h' tk' (hp.objs.size + 1) dx ⟨old, Nat.le_succ _, ⟨_, _, hx, rfl, rfl, rfl, rfl⟩, Nat.le_trans (Nat.le_trans (Nat.le_succ _) (Nat.le_succ _)) z, dne, hns⟩⟩
end
end K26
namespace K26
open PySem PySem.Spec PyProof.Rows L2
/-- what the program's head says -/
structure BadP (P : Program) : Prop where
  main : (P.main.file == mainFile) = true
  top : (P.main.scope.names.lookup ("super" : Str)).isSome = false
def xdF (v1 v2 : V) : List (Str × V) := [(("at" : Str), v2), (("line" : Str), v1)]
theorem ne_la : ¬ (("line" : Str) = "at") := by decide +kernel
theorem relO_bad {u1 u2 : V} {v1 v2 : Value} (r1 : RelV u1 v1) (r2 : RelV u2 v2) (f : Str) : RelO (List.lookup f (xdF u1 u2)) (if f = "at" then some v2 else if f = "line" then some v1 else none) := by
  unfold xdF
  rw [lookup_put]
  by_cases h : f = "at"
  · rw [if_pos h, if_pos h]; exact r2
  · rw [if_neg h, if_neg h, lookup_put]
    by_cases h2 : f = "line"
    · rw [if_pos h2, if_pos h2]; exact r1
    · rw [if_neg h2, if_neg h2]; exact True.intro
theorem boot_super_ : bootBuiltins "super" = some (.type "super") := by decide +kernel
section
variable {X : Cx} {C fI : Addr}
/-- BadText(e, f) -/
def tMkBad (C : Addr) (ta : TA) : L2.St → Hp → XK → Prop := fun σ H Q => ta σ H fun vs H1 => ∃ v1 v2, vs = [v1, v2] ∧ ∀ d, H1 d = none → Q (.ref C) (some d) (upd H1 d (.xd (xdF v1 v2)))
theorem pmk_bad {a b : Expr} {ta : TA} {p pos : Pos} {k : Nat} (T : BadTxt X.K X.mg C fI) (BP : BadP X.prog) (hr : Room k X.A) (ha : PA X [a, b] ta) (hg : Gl X "BadText" := by rfl)
    (he : starEach (a :: [b]) X.env = (false, eval a X.env) :: starEach [b] X.env := by rfl) (hpl : (backTo pos (starEach [b] X.env)).any (·.1) = false := by rfl) :
    PMk X (.Call (.Name "BadText" p) [a, b] [] pos) (tMkBad C ta) := by
  intro pins s σ H Q I h
  refine wpAny_Call_Name_kw (ld_glob I hg T.gC ?_)
  refine PySem.W.callWith_K (h₀ := X.base) I.ok.mod.kin T.kC (thn (ha.run pos pins s σ H _ I h) fun us s1 hh => ?_) he hpl
  obtain ⟨vs, H1, I1, r1, v1, v2, ev, q1⟩ := hh
  subst ev
  refine ⟨I1.kIn, ?_⟩
  cases r1 with
  | cons rv1 rn =>
  rename_i w1 us1
  cases rn with
  | cons rv2 rn =>
    rename_i w2 us2
    cases rn
    show wpAny _ _ (call (.ref C) [w1, w2]) _ _ _
    have hlim := I1.nolimit
    obtain ⟨mb, hmb, hmbx⟩ := I1.mod.blt
    have hG : s1.heap.Ns mainGlobals X.mg := I1.mod.glob.keeps I1.bk
    have hBn : s1.heap.Ns builtinsNs mb := hmb.keeps I1.bk
    obtain ⟨hp, g, dr, tk, os⟩ := s1
    refine wpAny_call (bad_made T I1.kIn hG hBn ((hmbx _ (by decide)).trans boot_super_) BP.main BP.top hlim (by have := hr.dp; omega) fun h' tk' e d M => ?_)
    show MkP X pins σ Q (.ref e) ⟨h', g, dr, tk', os⟩
    obtain ⟨oe, fv, hoe, hc, hd, hdat, h1⟩ := M.obj
    have hns := M.ns
    obtain ⟨G', g1, g2⟩ := restrict h' fun b => decide (b ≠ e)
    have gk : ∀ b, b ≠ e → G'.get? b = h'.get? b := fun b hb => g1 b (decide_eq_true hb)
    have ge : G'.get? e = none := g2 e (by simp)
    have old : ∀ b o, hp.get? b = some o → G'.get? b = some o := fun b o q => (gk b (Nat.ne_of_lt (Nat.lt_of_lt_of_le (Heap.lt_size q) M.new))).trans (M.keep b o q)
    have ob : ObjOk X.prog X.w (upd H1 d (.xd (xdF v1 v2))) G' d (.xd (xdF v1 v2)) :=
      ⟨_, hns.at (fun o q => (gk d M.dne).trans q), fun f => relO_bad rv1 rv2 f⟩
    have J : Inv X pins σ (upd H1 d (.xd (xdF v1 v2))) ⟨G', g, dr, tk', os⟩ := I1.laid (t' := tk') old M.dbig ob
    refine ⟨e, oe, fv, ⟨G', g, dr, tk', os⟩, _, .ref C, some d, rfl, J, fun b o q => ?_, ge, hoe, ⟨hc, hd⟩, hdat, h1, ?_, rfl, I1.bare, raises_own T.exC T.tyC, q1 d (I1.hok.fresh M.dbig)⟩
    · by_cases hb : b = e
      · have q' : G'.get? b = some o := q
        rw [hb, ge] at q'; cases q'
      · exact (gk b hb).symm.trans q
    · rw [upd_ne (Ne.symm M.dne)]
      exact I1.hok.fresh M.new
/-- e.line, e.at of the exception that a suite holds -/
def tBadF (C : Addr) (f : Str) (a : Addr) (cls : Value) (d : Option Addr) (te : TE) : TE := fun σ H Q => te σ H fun x H1 => x = .ref a ∧ cls = .ref C ∧ ∃ (dd : Addr) (fs : List (Str × V)) (v : V), d = some dd ∧ H1 dd = some (.xd fs) ∧ fs.lookup f = some v ∧ Q v H1
theorem pe_badF {a : Addr} {oe : Obj} {cls : Value} {d : Option Addr} {pn : List (Addr × Obj)} {e : Expr} {te : TE} {pos : Pos} {f : Str} (T : BadTxt X.K X.mg C fI) (hno : PySem.W.findIn X.K (.ref C) f = some none) (hz : Zc cls d oe) (hf : ∃ vs, oe.data = .fields vs) (he : PE (X.suite a ((a, oe) :: pn)) e te)
    (hb : attributeBase e f X.env (eval e X.env) = eval e X.env := by rfl) :
    PE (X.suite a ((a, oe) :: pn)) (.Attribute e f pos) (tBadF C f a cls d te) := by
  refine ⟨fun pins s σ H Q I h => ?_⟩
  refine attr_of hb (thn (he.run pins s σ H _ I h) fun u s1 hh => ?_)
  obtain ⟨x, H1, I1, rx, ex, ec, dd, fs, v, ed, ea, l, q⟩ := hh
  subst ex
  obtain rfl : u = Value.ref a := rx
  subst ec
  subst ed
  obtain ⟨ha, _⟩ := I1.pin (a, oe) (List.mem_append_left _ List.mem_cons_self)
  obtain ⟨vs, hd⟩ := hf
  have hx : ObjOk X.prog X.w H1 s1.heap dd (.xd fs) := I1.hok dd _ ea
  obtain ⟨mA, hns, hr⟩ := hx
  obtain ⟨od, ho, hl⟩ := lookIn_ns hns
  obtain ⟨u, hu, ru⟩ := RelO.some_of (v := v) (o := mA f) (by rw [← l]; exact hr f)
  have J : PySem.W.InstAt s1.heap a oe C (some od) := ⟨ha, hz.1, by unfold PySem.W.notCls; rw [hd] <;> rfl, by rw [hz.2]; exact ho⟩
  exact HandSPX.exc_get I1.kIn J T.ga T.gg T.exC (PySem.W.findObj_own T.hdC hno rfl (by rw [hl, hu])) (handed_of ru) ⟨v, H1, I1.tok _, ru, q⟩
end
end K26

end
section
set_option linter.all false
set_option maxRecDepth 100000
set_option maxHeartbeats 4000000
namespace K26
open PySem PySem.Spec PyProof.Rows L2
/-! ### enumerate(tuple) -/
theorem enum_new1 {v : Value} {o : Obj} {H : Heap → Prop} (B : Begins v o H) :
    Meets (Builtin.«enumerate.__new__» ⟨[.type "enumerate", v], []⟩) (fun _ R s => H s.heap ∧
      R (.ok (.ret (.ref (s.heap.push o).objs.size))) { s with heap := (s.heap.push o).push { cls := .type "enumerate", data := .fields #[.none, .bool false, .ref s.heap.objs.size, rawInt 0, .none, .none] } }) :=
  .of_wp fun prog w A R s h => by
    obtain ⟨hp, g, d, tk, os⟩ := s
    obtain ⟨h1, h⟩ := h
    have subT := sub_enumerate
    have itr : ∀ {A' : Around} {E : Value → Shared → Prop} {Q : Value → Shared → Prop}, Q (.ref hp.objs.size) ⟨hp.push o, g, d, tk, os⟩ → wpAny (model prog w) A' (pyIter v) Q E ⟨hp, g, d, tk, os⟩ :=
      fun q => B.iter prog w _ _ ⟨hp, g, d, tk, os⟩ _ h1 q
    wp_walk using itr
    refine wpAny_stack_any fun st => wpAny_pure ?_
    split
    · rename_i c _ _ _ _ _
      cases (c == Value.type "enumerate")
      · wp_walk using itr
        exact ⟨_, rfl, h⟩
      · wp_walk using itr
        exact ⟨_, rfl, h⟩
    · wp_walk using itr
      exact ⟨_, rfl, h⟩
theorem enum_call1 {prog : Program} {w : World} {A : Around} {E : Value → Shared → Prop} {s : Shared} {v : Value} {o : Obj} {H : Heap → Prop} {Q : Value → Shared → Prop} (B : Begins v o H) (h1 : H s.heap)
    (h : ∀ h', IsEnum h' (s.heap.objs.size + 1) s.heap.objs.size 0 .none → h'.get? s.heap.objs.size = some o → (∀ b o, s.heap.get? b = some o → h'.get? b = some o) → Q (.ref (s.heap.objs.size + 1)) { s with heap := h' }) :
    wpAny (model prog w) A (call (.type "enumerate") [v]) Q E s := by
  refine callType_new F.called_enumerate (by decide) (F.typeCall_enumerate_1 _) (F.newCall_enumerate_1 _) (fun obj => F.args_object_init_2 obj _) F.entry_enumerate_new (enum_new1 B) ⟨h1, ?_⟩
  have hz : (s.heap.push o).objs.size = s.heap.objs.size + 1 := Heap.size_push ..
  show _ ∧ _
  rw [hz]
  have he : IsEnum ((s.heap.push o).push { cls := .type "enumerate", data := .fields #[.none, .bool false, .ref s.heap.objs.size, rawInt 0, .none, .none] }) (s.heap.objs.size + 1) s.heap.objs.size 0 .none := by
    have := Heap.get?_push_size (s.heap.push o) (o := { cls := .type "enumerate", data := .fields #[.none, .bool false, .ref s.heap.objs.size, rawInt 0, .none, .none] }) rfl
    rw [hz] at this; exact this
  exact ⟨⟨_, he, rfl⟩, h _ he (Heap.get?_push_of_some _ (Heap.get?_push_size _ B.free)) fun b o x => Heap.get?_push_of_some _ (Heap.get?_push_of_some _ x)⟩
/-- the tuple at a, each item in a new pair -/
def Iet (K : PySem.W.Frag) (a : Addr) : It :=
  ⟨fun i H => ∃ (xs : List V) (x : V), SqT K H a xs ∧ xs[i]? = some x, fun i H v H' => ∃ T x, v = .ref T ∧ H T = none ∧ H' = upd H T (.tup [.int (i : Nat), x]) ∧ ∀ xs, SqT K H a xs → xs[i]? = some x, fun i H => ∃ xs : List V, SqT K H a xs ∧ xs.length ≤ i⟩
theorem turn_enumT {P : Program} {w : World} {K : PySem.W.Frag} {elts : List Expr} {kk : Nat} {tpos : Pos} (a e it : Addr) :
    Turn P w K (.Tuple elts kk tpos) (Iet K a) [e, it] e (fun i h => (∃ old, IsEnum h e it ((i : Nat) : Int) old) ∧ h.IsTupleIter it a i ∧ e ≠ it) where
  mem := by simp
  obj := fun i h st b hb => by
    obtain ⟨⟨old, he⟩, ⟨o, ho, hc, hd⟩, _⟩ := st
    have z : b = e ∨ b = it := by simpa using hb
    rcases z with z | z
    · rw [z]; exact ⟨_, he, fun v q => nomatch q⟩
    · rw [z]; exact ⟨o, ho, fun v q => by rw [hd] at q; cases q⟩
  keep := fun i h h' st k => let ⟨⟨old, he⟩, hi, hne⟩ := st; ⟨⟨old, k e (by simp) _ he⟩, hi.at fun o q => k it (by simp) o q, hne⟩
  item := by
    intro X hP hw hK hc i pins s σ H E I hf st hg
    subst hP hw hK
    obtain ⟨⟨old, he⟩, hit, hne⟩ := st
    obtain ⟨xs, x, hq, hx⟩ := hg
    obtain ⟨its, rv, p, hz⟩ := I.tuple hq
    have pt : s.heap.IsTuple a its.toArray := p
    obtain ⟨u, hu, ru⟩ := rv.get hx
    have hel : e < s.heap.objs.size := Heap.lt_size he
    have hil : it < s.heap.objs.size := by obtain ⟨_, q, _⟩ := hit; exact Heap.lt_size q
    have hai : a ≠ it := fun z => by
      obtain ⟨o1, q1, c1, _⟩ := id pt
      obtain ⟨o2, q2, c2, _⟩ := id hit
      rw [z, q2] at q1
      cases q1
      rw [c2] at c1
      injection c1 with c1
      exact absurd c1 (by decide)
    have hae : e ≠ a := fun z => by
      obtain ⟨o1, q1, c1, _⟩ := id pt
      have he' : s.heap.get? e = _ := he
      rw [z, q1] at he'
      cases he'
      injection c1 with c1
      exact absurd c1 (by decide)
    have D := Draws.tuple (prog := X.prog) (w := X.w) (A := X.A.in1) (I.ok.hd hc) it a hai its.toArray
    refine wpAny_pyNext_enum_itemD D he ⟨hit, pt⟩ (by simp; exact (List.getElem?_eq_some_iff.mp hu).1) hne (by simp [hne, hae]) fun y h' tk hy ho hst hT hsz hk => ?_
    have hy : y = u := by
      have : its[i]? = some y := by simpa using hy
      rw [hu] at this
      exact (Option.some.inj this).symm
    subst hy
    refine ⟨_, rfl, wpAny_letOwnedTupleGo_enum (s := { s with heap := h', toks := tk + 1 }) ho fun h'' he' sb => ?_⟩
    have hT2 : h''.get? s.heap.objs.size = some { cls := .type "tuple", data := .seq #[.int i tk, y] } := (sb.2 _ (Nat.ne_of_gt hel)).trans hT
    have new : ObjOk X.prog X.w (upd H s.heap.objs.size (.tup [.int (i : Nat), x])) h'' s.heap.objs.size (.tup [.int (i : Nat), x]) :=
      ⟨by show 2 ≤ sizeLine; decide, [.int i tk, y], .cons ⟨_, rfl⟩ (.cons ru .nil), ⟨_, hT2, rfl, _, rfl⟩⟩
    have I1 : Inv X pins σ (upd H s.heap.objs.size (.tup [.int (i : Nat), x])) { s with heap := h'', toks := tk + 1 } :=
      I.turnedNew (ch := [e, it]) (fun b ob hb q => (sb.2 b (fun z => hb (by simp [z]))).trans (hk b ob (fun z => hb (by simp [z])) (fun z => hb (by simp [z])) q)) hf (Nat.le_refl _) new
    refine ⟨.ref s.heap.objs.size, _, I1, rfl, ⟨_, x, rfl, I.hok.fresh (Nat.le_refl _), rfl, fun ys hy => by rw [I.tuple_inj hy hq]; exact hx⟩, ⟨⟨y, ?_⟩, hst.1.at fun o q => (sb.2 it (Ne.symm hne)).trans q, hne⟩, fun b hb => ?_⟩
    · rw [show ((i + 1 : Nat) : Int) = (i : Int) + 1 by omega]; exact he'
    · have hb' : b < s.heap.objs.size := by
        have z : b = e ∨ b = it := by simpa using hb
        rcases z with z | z
        · rw [z]; exact hel
        · rw [z]; exact hil
      rw [upd_ne (Nat.ne_of_lt hb')]
      exact (hf b hb).1
  done := by
    intro X hP hw hK hc i pins s σ H E I hf st hg
    subst hP hw hK
    obtain ⟨⟨old, he⟩, hit, hne⟩ := st
    obtain ⟨xs, hq, hx⟩ := hg
    obtain ⟨its, rv, p, hz⟩ := I.tuple hq
    have pt : s.heap.IsTuple a its.toArray := p
    obtain ⟨f0, f1, f2, f3, f4, f5⟩ := hf it (by simp)
    have hl := rv.length
    have hT : s.TypeIs (.ref e) "enumerate" := ⟨_, he, rfl⟩
    unfold pyNext
    refine wpAny_bind (wpAny_attempt (wpAny_callSpecial?_slot (name := Str.ofString "__next__") hT F.slot_enumerate_next
      (wpAny_call_entry F.slot_enumerate_next hT F.entry_enumerate_next ?_ (F.args_enumerate_next_1 _))))
    show wpAny _ _ (field (.ref e) 2 >>= _) _ _ _
    refine wpAny_bind (wpAny_field he rfl (x := .ref it) rfl ?_)
    refine wpAny_bind (wpAny_nextOf_tuple_end (I.ok.hd hc) hit pt (by simp; omega) fun h' x he' hx' => ?_)
    obtain ⟨o, ho, hcl⟩ := hx'
    refine wpAny_bind (wpAny_isInstance (T := "StopIteration") (b := true) ⟨o, ho, hcl⟩ isSubtype_stop ?_)
    exact wpAny_pure ⟨rfl, I.turned (t' := s.toks) (fun b o hb q => he' b o hb q) f0 f1 f3 f4 f5⟩
  self := fun A i s Q E st h => let ⟨⟨_, he⟩, _⟩ := st; wpAny_pyIter_enum he h
def iEnumT (K : PySem.W.Frag) (ta : TA) : TI := fun σ H R => ta σ H fun vs H1 => ∃ a xs, vs = [.ref a] ∧ SqT K H1 a xs ∧ R (Iet K a) H1
theorem pi_enumT' {X : Cx} {e : Expr} {ta : TA} {p pos tpos : Pos} {elts : List Expr} {kk : Nat} (hg : Gl X "enumerate") (hm : X.mg "enumerate" = none) (ha : PA X [e] ta) (hs : starEach [e] X.env = [(false, eval e X.env)] := by rfl) :
    PI X (.Tuple elts kk tpos) (.Call (.Name "enumerate" p) [e] [] pos) (iEnumT X.K ta) := by
  refine ⟨fun pins s σ H R I h => ?_⟩
  refine Call_ (ld_blt I hg hm boot_enumerate (PyProof.Rows.callWith_type1 (thn (ha.run pos pins s σ H _ I h) fun us s1 ⟨vs, H1, I1, r1, q1⟩ => ?_) hs rfl))
  obtain ⟨a, xs, eq, hq, q⟩ := q1
  subst eq
  cases r1 with
  | cons r rr =>
    cases rr
    cases r
    obtain ⟨its, rv, p', hz⟩ := I1.tuple hq
    refine enum_call1 (begins_tuple a its.toArray) (show s1.heap.IsTuple a its.toArray from p') fun h' he hit hk => wpAny_pyIter_enum he ?_
    have I2 : Inv X pins σ H1 { s1 with heap := h' } := I1.kept (t' := s1.toks) hk
    refine ⟨s1.heap.objs.size + 1, [s1.heap.objs.size + 1, s1.heap.objs.size], _, _, H1, rfl, I2, turn_enumT a (s1.heap.objs.size + 1) s1.heap.objs.size, ⟨⟨.none, he⟩, ⟨_, hit, rfl, rfl⟩, Nat.succ_ne_self _⟩, fun b hb => ?_, q⟩
    have z : b = s1.heap.objs.size + 1 ∨ b = s1.heap.objs.size := by simpa using hb
    have hle : s1.heap.objs.size ≤ b := by
      rcases z with z | z
      · rw [z]; exact Nat.le_add_right _ _
      · rw [z]; exact Nat.le_refl _
    exact I1.fpOk hle (I1.hok.fresh hle)
theorem pi_enumT {X : Cx} (T : Txt X.K X.mg) {e : Expr} {t : TE} {p pos tpos : Pos} {elts : List Expr} {kk : Nat} (he : PE X e t) (hg : Gl X "enumerate" := by rfl) (hs : starEach [e] X.env = [(false, eval e X.env)] := by rfl)
    (hs' : starEach [e] X.env = (false, eval e X.env) :: starEach [] X.env := by rfl) :
    PI X (.Tuple elts kk tpos) (.Call (.Name "enumerate" p) [e] [] pos) (iEnumT X.K (tCons t tNil)) := pi_enumT' hg T.b_enumerate (pa_cons he pa_nil hs') hs
/-- over a tuple with its places -/
theorem for_enumT {K : PySem.W.Frag} {a : Addr} {xs : List V} {g : TG} {tb : TS} {D : Ends} {σ : L2.St} {H : Hp} (Pv : Nat → L2.St → Hp → Prop) (h0 : Pv 0 σ H) (hl : ∀ i σ H, i ≤ xs.length → Pv i σ H → SqT K H a xs)
    (hs : ∀ i x σ H T, xs[i]? = some x → Pv i σ H → H T = none → g (.ref T) σ (upd H T (.tup [.int (i : Nat), x])) fun σ2 H2 => tb { D with nx := Pv (i + 1), ct := Pv (i + 1), bk := D.nx } σ2 H2) (hd : ∀ σ H, Pv xs.length σ H → D.nx σ H) :
    ∃ W : Nat → Nat → L2.St → Hp → Prop, (∃ m, W 0 m σ H) ∧ ∀ i m σ H, W i m σ H →
      ((Iet K a).stop i H ∧ D.nx σ H) ∨ ((Iet K a).go i H ∧ ∃ N : L2.St → Hp → Prop, (∀ σ' H', N σ' H' → ∃ m', m' < m ∧ W (i + 1) m' σ' H') ∧ ∀ x H', (Iet K a).yld i H x H' → g x σ H' fun σ2 H2 => tb { D with nx := N, ct := N, bk := D.nx } σ2 H2) := by
  refine ⟨fun i m σ H => m = xs.length - i ∧ i ≤ xs.length ∧ Pv i σ H, ⟨xs.length, by simp, Nat.zero_le _, h0⟩, ?_⟩
  intro i m σ H hw
  obtain ⟨rfl, hi, p⟩ := hw
  have q := hl i σ H hi p
  rcases Nat.lt_or_ge i xs.length with hlt | hge
  · refine .inr ⟨⟨xs, xs[i], q, by simp [hlt]⟩, Pv (i + 1), fun σ' H' p' => ⟨xs.length - (i + 1), by omega, rfl, hlt, p'⟩, fun v H' y => ?_⟩
    obtain ⟨T, x, rfl, hT, rfl, hy⟩ := y
    exact hs i x σ _ T (hy xs q) p hT
  · obtain rfl : i = xs.length := by omega
    exact .inl ⟨⟨xs, q, Nat.le_refl _⟩, hd σ H p⟩
end K26

end
section
set_option linter.all false
set_option maxRecDepth 100000
set_option maxHeartbeats 4000000
namespace K26
open PySem PySem.Spec PyProof.Rows L2
open SX (S S_len S_cat S_inj)
theorem kx_tup {X : Cx} {K : PySem.W.Frag} (h : X.K = K) : IxR X (rIxT K) := h ▸ ix_tup
theorem kx_list {X : Cx} {K : PySem.W.Frag} (h : X.K = K) : IxR X (rIxL K) := h ▸ ix_list
theorem kx_seq {X : Cx} {K : PySem.W.Frag} (h : X.K = K) : IxR X (rIx K) := h ▸ ix_seq
/-- the turns of a comprehension -/
def LcB (J : It) (g : TG) (tt : TT) (te : TE) (vs : List Nat) (σ : L2.St) (H1 : Hp) (Q : VK) : Prop := ∀ D, H1 D = none → ∃ W : Nat → Nat → Hp → Prop, (∃ m, W 0 m (upd H1 D (.lst []))) ∧ ∀ i m H, W i m H →
  (J.stop i H ∧ Q (.ref D) H) ∨ (J.go i H ∧ ∃ Nx : Hp → Prop, (∀ H', Nx H' → ∃ m', m' < m ∧ W (i + 1) m' H') ∧ ∀ x H', J.yld i H x H' → g x (wipe σ vs) H' fun σ2 H2 => wipe σ2 vs = wipe σ vs ∧ tt σ2 H2 fun b H3 =>
    if b = true then te σ2 H3 fun y H4 => ∃ acc, H4 D = some (.lst acc) ∧ acc.length < sizeLine ∧ Nx (upd H4 D (.lst (acc ++ [y]))) else Nx H3)
theorem tLc_eq (wi : TI) (g : TG) (tt : TT) (te : TE) (vs : List Nat) (σ : L2.St) (H : Hp) (Q : VK) : tLc wi g tt te vs σ H Q = wi σ H fun J H1 => LcB J g tt te vs σ H1 Q := rfl
/-- the turns of a for -/
def ForB (J : It) (g : TG) (tb : TS) (D : Ends) (σ : L2.St) (H1 : Hp) : Prop := ∃ W : Nat → Nat → L2.St → Hp → Prop, (∃ m, W 0 m σ H1) ∧ ∀ i m σ H, W i m σ H →
  (J.stop i H ∧ D.nx σ H) ∨ (J.go i H ∧ ∃ N : L2.St → Hp → Prop, (∀ σ' H', N σ' H' → ∃ m', m' < m ∧ W (i + 1) m' σ' H') ∧ ∀ x H', J.yld i H x H' → g x σ H' fun σ2 H2 => tb { D with nx := N, ct := N, bk := D.nx } σ2 H2)
theorem tFor_eq (wi : TI) (g : TG) (tb : TS) (D : Ends) (σ : L2.St) (H : Hp) : tFor wi g tb D σ H = wi σ H fun J H1 => ForB J g tb D σ H1 := rfl
theorem wipe_1 (σ : L2.St) (v : Nat) : wipe σ [v] = σ.set v none := rfl
theorem walk_enumT {K : PySem.W.Frag} {a : Addr} {xs : List V} : Walk (Iet K a) xs.length (fun H => SqT K H a xs) (YPair (fun i => some (.int (i : Nat))) (fun i => xs[i]?)) := by
  refine ⟨fun i _ hi q => ⟨xs, xs[i], q, by simp [hi]⟩, fun _ q => ⟨xs, q, Nat.le_refl _⟩, fun i H v H' _ q y => ?_⟩
  obtain ⟨T, x, h1, h2, h3, h4⟩ := y
  exact ⟨T, .int (i : Nat), x, h1, h2, h3, rfl, h4 xs q⟩
section
variable {J : It} {n : Nat} {G : Hp → Prop} {Y : Nat → Hp → V → Hp → Prop}
theorem lcb (w : Walk J n G Y) {g : TG} {tt : TT} {te : TE} {vs : List Nat} {σ : L2.St} {H1 : Hp} {Q : VK} (Pv : Addr → Nat → Hp → Prop) (h0 : ∀ D, H1 D = none → Pv D 0 (upd H1 D (.lst []))) (hG : ∀ D i H, H1 D = none → Pv D i H → G H)
    (hs : ∀ D i x H H', H1 D = none → i < n → Pv D i H → Y i H x H' → g x (wipe σ vs) H' fun σ2 H2 => wipe σ2 vs = wipe σ vs ∧ tt σ2 H2 fun b H3 =>
      if b = true then te σ2 H3 fun y H4 => ∃ acc, H4 D = some (.lst acc) ∧ acc.length < sizeLine ∧ Pv D (i + 1) (upd H4 D (.lst (acc ++ [y]))) else Pv D (i + 1) H3) (hd : ∀ D H, H1 D = none → Pv D n H → Q (.ref D) H) : LcB J g tt te vs σ H1 Q :=
  fun D hD => lc_it w (Pv D) (h0 D hD) (fun i H _ p => hG D i H hD p) (fun i x H H' hi p y => hs D i x H H' hD hi p y) fun H p => hd D H hD p
theorem forb (w : Walk J n G Y) {g : TG} {tb : TS} {D : Ends} {σ : L2.St} {H : Hp} (Pv : Nat → L2.St → Hp → Prop) (h0 : Pv 0 σ H) (hG : ∀ i σ H, Pv i σ H → G H)
    (hs : ∀ i x σ H H', i < n → Pv i σ H → Y i H x H' → g x σ H' fun σ2 H2 => tb { D with nx := Pv (i + 1), ct := Pv (i + 1), bk := D.nx } σ2 H2) (hd : ∀ σ H, Pv n σ H → D.nx σ H) : ForB J g tb D σ H :=
  for_it w Pv h0 (fun i σ H _ p => hG i σ H p) hs hd
end
theorem acc_next {H1 : Hp} {D : Addr} {ys : List V} {i : Nat} {y : V} (hy : ys[i]? = some y) (hl : ys.length ≤ 5000000) (R : Hp → Prop) (h : R (upd H1 D (.lst (ys.take (i + 1))))) :
    ∃ acc, (upd H1 D (.lst (ys.take i))) D = some (.lst acc) ∧ acc.length < sizeLine ∧ R (upd (upd H1 D (.lst (ys.take i))) D (.lst (acc ++ [y]))) := by
  obtain ⟨hi, rfl⟩ := List.getElem?_eq_some_iff.mp hy
  refine ⟨_, upd_same, lt_line (by rw [List.length_take]; omega), ?_⟩
  rw [upd_upd, List.take_append_getElem hi]
  exact h
/-- what is shown once and used in several branches -/
theorem share {Pre Kt : Hp → Prop} {G : Prop} (h1 : (∀ H, Pre H → Kt H) → G) (h2 : ∀ H, Pre H → Kt H) : G := h1 h2
theorem share2 {Pre Kt : L2.St → Hp → Prop} {G : Prop} (h1 : (∀ σ H, Pre σ H → Kt σ H) → G) (h2 : ∀ σ H, Pre σ H → Kt σ H) : G := h1 h2
theorem shareC {c B G : Prop} (h1 : (c → B) → G) (h2 : c → B) : G := h1 h2
def rGetL (K : PySem.W.Frag) : V → V → Hp → VK → Prop := fun o i H Q => ∃ p xs k v, o = .ref p ∧ i = .int k ∧ SqL K H p xs ∧ 0 ≤ k ∧ k < 2 ^ 62 ∧ xs[k.toNat]? = some v ∧ Q v H
theorem get_list {X : Cx} : PGet X (rGetL X.K) := by
  intro pins s σ H o i ov iv Q I ro ri h
  obtain ⟨p, xs, k, v, rfl, rfl, hs, h0, h1, hv, q⟩ := h
  cases ro
  obtain ⟨t, rfl⟩ := ri
  obtain ⟨its, rv, pl, hz⟩ := I.list hs
  obtain ⟨u, hu, ru⟩ := rv.get hv
  exact wpAny_getItem_list pl.isList h0 (by omega) (by simpa using hu) ⟨v, H, I, ru, q⟩
end K26

end
section
set_option linter.all false
set_option maxRecDepth 100000
set_option maxHeartbeats 4000000
namespace K26
open PySem PySem.Spec PyProof.Rows L2
open SX (S S_len S_cat S_inj)
open PySem.NumText
local macro_rules | `(tactic| wtm_at "rd") => `(tactic| try simp only [tSeq, tAsg, tVar, tC, gName, tRet, tRetN, tIfS, tNext, tDrop, tOp, tUn, rI0, rI, rU, tTest, tB, tAnd, tOr, tNot, tAndV, tOrV, tNotV, tIf, tCB, tCons, tNil, tTup, tLst, tCall, tSl, tPart, tNoPart, tBM, tBM0, gTup, gCons, gNil, gSub, tAug, ipI, rEq, rNe, sc_ii, sc_ss, sc_bb, sc_nn, sc_is, sc_si, sc_ns, sc_sn, sc_ni, sc_in, z0, z1, z2, z3, z4, z5, if_true, if_false, Bool.not_eq_true', decide_eq_false_iff_not, rIxS, rSlS, rSlL, tAugS, rGetL, cast1, rIxL, rIxT, rSetL, rAppend, rPop, rPopAt, rReverse, rCat, tYes, iRng1, iRng2, tMkBad, rIn, tFld, sFld, sFldAug, rAdd, tMeth, tMake, tCallS, tBadF, tM1, iList, iTup, iEnum, iEnumT, iStr, tBreak, C8.tCut, tFor_eq, tLc_eq, wipe_1,
  L2.start, List.map_cons, List.map_nil, List.cons_append, List.nil_append, List.append_nil, List.length_cons, List.length_nil, Nat.reduceAdd, Nat.reduceSub, List.replicate_succ, List.replicate_zero,
  List.getElem?_cons_succ, List.getElem?_cons_zero, List.set_cons_succ, List.set_cons_zero, Option.some.injEq, V.int.injEq, V.str.injEq, V.ref.injEq, V.bl.injEq, List.cons.injEq, and_assoc, and_true, true_and, exists_eq_left', exists_eq_left, exists_and_left, exists_and_right, exists_eq, decide_eq_true_eq, reduceCtorEq, false_and, and_false, exists_false, false_or, or_false, S_len, S_eq, k0, k1, k2, k3, k4, k5, k6, k7, k8, k9, k10, k11, k12, k13, k14, k15, k16, k17, k18, k19, k20, k21, k22, k23, k24, k25, k26, k27, k28, k29, k30, k31, k32, k33, k34, k35, k36, k37, k38, k39, k40, k41, k42, k43, k44, k45, k46, k47, k48, k49, k50, k51, k52, k53, Nat.zero_add])

def runN (cs l : List Nat) (a : Nat) : Nat := a + ((l.drop a).takeWhile (fun c => decide (c ∈ cs))).length
theorem runN_hit {cs l : List Nat} {a c : Nat} (h : l[a]? = some c) (hc : c ∈ cs) : runN cs l a = runN cs l (a + 1) := by
  obtain ⟨hl, rfl⟩ := List.getElem?_eq_some_iff.mp h
  unfold runN
  rw [List.drop_eq_getElem_cons hl, List.takeWhile_cons, if_pos (by simpa using hc)]
  simp; omega
theorem runN_miss {cs l : List Nat} {a c : Nat} (h : l[a]? = some c) (hc : ¬ c ∈ cs) : runN cs l a = a := by
  obtain ⟨hl, rfl⟩ := List.getElem?_eq_some_iff.mp h
  unfold runN
  rw [List.drop_eq_getElem_cons hl, List.takeWhile_cons, if_neg (by simpa using hc)]
  simp
theorem runN_end {cs l : List Nat} {a : Nat} (h : l.length ≤ a) : runN cs l a = a := by
  unfold runN
  rw [List.drop_eq_nil_of_le h]
  simp
theorem runN_le {cs l : List Nat} {a : Nat} (h : a ≤ l.length) : runN cs l a ≤ l.length := by
  have := run_len (fun c => decide (c ∈ cs)) (l.drop a)
  unfold runN
  rw [List.length_drop] at this
  omega
theorem runN_letters (l : List Nat) (a : Nat) : runN letters l a = a + ((l.drop a).takeWhile isL).length := by
  unfold runN; rw [show (fun c => decide (c ∈ letters)) = isL from funext mem_letters]
theorem runN_digs (l : List Nat) (a : Nat) : runN digs l a = a + ((l.drop a).takeWhile isD).length := by
  unfold runN; rw [show (fun c => decide (c ∈ digs)) = isD from funext mem_digs]
theorem runN_space (l : List Nat) (a : Nat) : runN [32] l a = a + spn (l.drop a) := by
  unfold runN spn; simp
theorem drop_at {l : List Nat} {a c : Nat} {r : List Nat} (h : l.drop a = c :: r) : a < l.length ∧ l[a]? = some c ∧ l.drop (a + 1) = r := by
  have hl : a < l.length := by
    have := congrArg List.length h
    rw [List.length_drop, List.length_cons] at this
    omega
  rw [List.drop_eq_getElem_cons hl] at h
  injection h with h1 h2
  exact ⟨hl, by rw [List.getElem?_eq_getElem hl, h1], h2⟩
/-- the texts' runs of digits are short -/
def DigOk (l : List Nat) : Prop := ∀ k, ((l.drop k).takeWhile isD).length ≤ 600
/-! ### run_end -/
def spRunEnd : Sp := fun vs H Q _ => ∃ (l cs : List Nat) (a : Nat), vs = [.str (S l), .int a, .str (S cs)] ∧ a ≤ l.length ∧ l.length ≤ 1000000 ∧ Q (.int (runN cs l a : Nat)) H
section
variable {P : Program} {w : World} {K : PySem.W.Frag} {mg : Str → Option Value} {base : Heap}
abbrev sc_run_end_N : List Str := ["line", "at", "chars", "end"]
abbrev sc_run_end_P : List Str := ["line", "at", "chars"]
abbrev sc_run_end_s : Scope := defScope s_run_end
theorem sc_run_end : FnScope sc_run_end_N sc_run_end_P sc_run_end_s := ⟨rfl, rfl, rfl, by decide +kernel, rfl, by decide +kernel, by decide +kernel⟩

theorem ok_run_end (T : Txt K mg) : Cal P w K mg base CX0 1 "run_end" spRunEnd := by
  refine cal0 T.f_run_end T.g_run_end sc_run_end (fun _ _ _ _ _ _ us hl => match us, hl with | [_, _, _], _ => rfl) (fun vs H Q E h => ?_) (fun cdv A outer s H vs Q E hr h => ?_)
  · obtain ⟨l, cs, a, rfl, _⟩ := h; rfl
  · obtain ⟨l, cs, a, rfl, ha, hl, q⟩ := h
    refine ⟨_, (pss_cons (ps_set (i := 3) sc_run_end.nd rfl (by first | exact Or.inl rfl | exact Or.inr rfl) (pv 1))
      (pss_cons (ps_while PassesOwn.never (PW.pt (pw_and (pt_cmpR op_lt (pv 3) (pe_callB call_len_str (by rfl) T.b_len boot_len (pa_cons (pv 0) pa_nil)) (nomark _)) (pw_and1 (pt_cmpR op_in_sign (pe_ix ix_str (pv 0) (pv 3) (fun _ _ => rfl)) (pv 2) rfl)))) (pss_one (ps_aug (i := 3) sc_run_end.nd rfl (by first | exact Or.inl rfl | exact Or.inr rfl) pe_int ip_add)))
      (pss_one (ps_ret (pv 3))))), ?_⟩
    wtm_at "rd"
    refine ⟨fun m σ' H' => ∃ e : Nat, H' = H ∧ σ' = [some (.str (S l)), some (.int a), some (.str (S cs)), some (.int (e : Int))] ∧ e ≤ l.length ∧ m = l.length - e ∧ runN cs l e = runN cs l a, ⟨_, a, rfl, rfl, ha, rfl, rfl⟩, ?_⟩
    rintro m σ' H' ⟨e, rfl, rfl, h1, rfl, h2⟩
    wtm_at "rd"
    refine ⟨le_line (by omega), ite2 (fun hc => ?_) (fun hc => ?_)⟩
    · have hc : e < l.length := by omega
      refine ⟨le_line (by omega), l[e], atI_nat (List.getElem?_eq_getElem hc), ite2 (fun hm => ?_) (fun hm => ?_)⟩
      · refine ⟨fun σ' H' => H' = _ ∧ σ' = [some (.str (S l)), some (.int a), some (.str (S cs)), some (.int ((e + 1 : Nat) : Int))], fun σ' H' z => ⟨l.length - (e + 1), by omega, z.1, e + 1, z.2, by omega, rfl, by rw [← h2, runN_hit (List.getElem?_eq_getElem hc) hm]⟩, ?_⟩
        exact ⟨rfl, rfl⟩
      · have := runN_miss (List.getElem?_eq_getElem hc) hm
        rw [← h2, this] at q
        exact q
    · have := runN_end (cs := cs) (l := l) (a := e) (by omega)
      rw [← h2, this] at q
      exact q
/-! ### integer_at -/
def kindS : Tk → List Nat
  | .sg c => [c]
  | .wd _ => [119, 111, 114, 100]
  | .qd _ => [113, 117, 111, 116, 101, 100]
  | .it _ => [105, 110, 116, 101, 103, 101, 114]
  | .bad => []
  | .fin => [101, 110, 100]
def valV : Tk → V
  | .sg c => .str (S [c])
  | .wd w => .str (S w)
  | .qd w => .str (S w)
  | .it i => .int i
  | _ => .int 0
/-- the triple that stands for a token found at a (or for none) -/
def tup3 (o : Option (Tk × Nat)) (a : Nat) : List V := match o with
  | some (t, n) => [.str (S (kindS t)), valV t, .int ((a + n : Nat) : Int)]
  | none => [.str (S []), .int 0, .int (a : Int)]
def spIntAt : Sp := fun vs H Q _ => ∃ (l r : List Nat) (a c : Nat), vs = [.str (S l), .int a] ∧ l.drop a = c :: r ∧ l.length ≤ 1000000 ∧ DigOk l ∧ ∀ p, H p = none → Q (.ref p) (upd H p (.tup (tup3 (lexI c r) a)))
theorem lexI_some {c : Nat} {r ds : List Nat} (hd : ds = (if (decide (c = 45)) = true then r else c :: r).takeWhile isD) (hne : ds ≠ []) (h0 : ¬ (ds.head? = some 48 ∧ ds.length + (if (decide (c = 45)) = true then 1 else 0) > 1)) :
    lexI c r = some (.it (valL (decide (c = 45)) ds), ds.length + (if (decide (c = 45)) = true then 1 else 0)) := by
  unfold lexI lexD
  rw [← hd, if_neg hne, if_neg h0]
theorem lexI_none {c : Nat} {r ds : List Nat} (hd : ds = (if (decide (c = 45)) = true then r else c :: r).takeWhile isD) (h : ds = [] ∨ (ds.head? = some 48 ∧ ds.length + (if (decide (c = 45)) = true then 1 else 0) > 1)) : lexI c r = none := by
  unfold lexI lexD
  rw [← hd]
  rcases h with h | h
  · rw [if_pos h]
  · by_cases hn : ds = []
    · rw [if_pos hn]
    · rw [if_neg hn, if_pos h]
theorem int_neg {ds : List Nat} (h : AllDigits ds) (hne : ds ≠ []) (hl : ds.length ≤ 600) : PySem.intText? (S (45 :: ds)) = some (valL true ds) :=
  PySem.intText_neg (x := S (45 :: ds)) (cs := ds) rfl h hne (by rw [S_len, List.length_cons]; omega)
theorem int_pos {ds : List Nat} (h : AllDigits ds) (hne : ds ≠ []) (hl : ds.length ≤ 600) : PySem.intText? (S ds) = some (valL false ds) :=
  PySem.intText_digits (x := S ds) h hne (by rw [S_len]; omega)
theorem tw_head {p : Nat → Bool} {r ds : List Nat} (h : ds = r.takeWhile p) (hne : ds ≠ []) : ∃ d ds' r', ds = d :: ds' ∧ r = d :: r' ∧ p d = true := by
  cases r with
  | nil => exact absurd h hne
  | cons d r' =>
    rw [List.takeWhile_cons] at h
    split at h
    · exact ⟨d, _, r', h, rfl, by assumption⟩
    · exact absurd h hne
theorem tw_take' {p : Nat → Bool} {r ds : List Nat} (h : ds = r.takeWhile p) : r.take ds.length = ds := by rw [h]; exact (tw_take p r).symm
abbrev sc_integer_at_N : List Str := ["line", "at", "first", "end"]
abbrev sc_integer_at_P : List Str := ["line", "at"]
abbrev sc_integer_at_s : Scope := defScope s_integer_at
theorem sc_integer_at : FnScope sc_integer_at_N sc_integer_at_P sc_integer_at_s := ⟨rfl, rfl, rfl, by decide +kernel, rfl, by decide +kernel, by decide +kernel⟩

theorem ok_integer_at (T : Txt K mg) : Cal P w K mg base CX0 2 "integer_at" spIntAt := by
  have c_run_end : Cal P w K mg base CX0 1 "run_end" spRunEnd := ok_run_end T
  refine cal0 T.f_integer_at T.g_integer_at sc_integer_at (fun _ _ _ _ _ _ us hl => match us, hl with | [_, _], _ => rfl) (fun vs H Q E h => ?_) (fun cdv A outer s H vs Q E hr h => ?_)
  · obtain ⟨l, r, a, c, rfl, _⟩ := h; rfl
  · obtain ⟨l, r, a, c, rfl, hd, hl, hk, q⟩ := h
    obtain ⟨hlt, hc, hr'⟩ := drop_at hd
    refine ⟨_, (pss_cons (ps_set (i := 2) sc_integer_at.nd rfl (by first | exact Or.inl rfl | exact Or.inr rfl) (pe_ifExp (pt_cmpR op_eq (pe_ix ix_str (pv 0) (pv 1) (fun _ _ => rfl)) pe_str (nomark _)) (pe_op op_add (pv 1) pe_int) (pv 1)))
      (pss_cons (ps_set (i := 3) sc_integer_at.nd rfl (by first | exact Or.inl rfl | exact Or.inr rfl) (pe_c c_run_end hr (pa_cons (pv 0) (pa_cons (pv 2) (pa_cons (pe_DIGITS T) pa_nil)))))
      (pss_cons (ps_if (PW.pt (pw_or (pt_cmpR op_eq (pv 2) (pv 3) (nomark _)) (pw_or1 (PW.pt (pw_and (pt_cmpR op_eq (pe_ix ix_str (pv 0) (pv 2) (fun _ _ => rfl)) pe_str (nomark _)) (pw_and1 (pt_cmpR op_gt (pe_op op_sub (pv 3) (pv 1)) pe_int (nomark _)))))))) (pss_one (ps_ret (pe_tup (pa_cons pe_str (pa_cons pe_int (pa_cons (pv 1) pa_nil)))))) pss_nil)
      (pss_one (ps_ret (pe_tup (pa_cons pe_str (pa_cons (pe_callTy call_int_str (by rfl) T.b_int boot_int_ (pa_cons (pe_slice sl_str (pv 0) (po_some (pv 1)) (po_some (pv 3))) pa_nil)) (pa_cons (pv 3) pa_nil))))))))), ?_⟩
    wtm_at "rd"
    refine ⟨le_line (by omega), c, atI_nat hc, ?_⟩
    by_cases hc45 : c = 45
    · subst hc45
      rw [if_pos rfl]
      refine ⟨l, digs, a + 1, rfl, by omega, hl, ?_⟩
      rw [runN_digs, hr']
      have hrl : r.length = l.length - (a + 1) := by rw [← hr', List.length_drop]
      obtain ⟨ds, hds⟩ : ∃ ds, ds = r.takeWhile isD := ⟨_, rfl⟩
      have hdl : ds.length ≤ r.length := by rw [hds]; exact run_len _ _
      have hda : AllDigits ds := digits_of_isD (by rw [hds]; exact tw_all _ _)
      have hd6 : ds.length ≤ 600 := by have := hk (a + 1); rw [hr'] at this; rw [hds]; exact this
      rw [← hds]
      wtm_at "rd"
      refine ite2 (fun h => ?_) (fun h => ?_)
      · have hn : ds = [] := List.eq_nil_of_length_eq_zero (by omega)
        intro p hp
        have := q p hp
        rw [lexI_none (c := 45) (r := r) (ds := ds) hds (.inl hn)] at this
        exact this
      · have hn : ds ≠ [] := fun e => h (by rw [e]; simp)
        have hp := len_pos hn
        obtain ⟨d, ds', r', e1, e2, e3⟩ := tw_head hds hn
        have hat : l[a + 1]? = some d := (drop_at (hr'.trans e2)).2.1
        have hcut : cutS (S l) (some ((a : Nat) : Int)) (some ((a + 1 + ds.length : Nat) : Int)) = S (45 :: ds) := by
          rw [cut2 (by omega) (by omega), hd, show a + 1 + ds.length - a = ds.length + 1 by omega, List.take_succ_cons, tw_take' hds]
        have good : ¬ (ds.head? = some 48 ∧ ds.length + 1 > 1) → tup3 (lexI 45 r) a = [.str (S [105, 110, 116, 101, 103, 101, 114]), .int (valL true ds), .int ((a + 1 + ds.length : Nat) : Int)] := fun h0 => by
          rw [lexI_some (c := 45) (r := r) (ds := ds) hds hn h0]
          show [V.str (S _), V.int _, V.int ((a + (ds.length + 1) : Nat) : Int)] = _
          rw [show a + (ds.length + 1) = a + 1 + ds.length by omega]
          rfl
        refine ⟨le_line (by omega), d, atI_nat hat, ite2 (fun h48 => ?_) (fun h48 => ?_)⟩
        · refine ite2 (fun h1 => ?_) (fun h1 => ?_)
          · intro p hp'
            have := q p hp'
            rw [lexI_none (c := 45) (r := r) (ds := ds) hds (.inr ⟨by rw [e1, h48]; rfl, by show ds.length + 1 > 1; omega⟩)] at this
            exact this
          · exact absurd (show (1 : Int) < ((a + 1 + ds.length : Nat) : Int) - (a : Int) by omega) h1
        · refine ⟨le_line (by omega), valL true ds, ?_, ?_, fun p hp' => ?_⟩
          · rw [hcut]; exact int_neg hda hn hd6
          · rw [hcut, S_len, List.length_cons]; omega
          · have := q p hp'
            rw [good (fun z => h48 (by rw [e1] at z; simpa using z.1))] at this
            exact this
    · rw [if_neg hc45]
      have hne45 : (decide (c = 45)) = false := decide_eq_false hc45
      refine ⟨l, digs, a, rfl, by omega, hl, ?_⟩
      rw [runN_digs, hd]
      have hrl : (c :: r).length = l.length - a := by rw [← hd, List.length_drop]
      obtain ⟨ds, hds⟩ : ∃ ds, ds = (c :: r).takeWhile isD := ⟨_, rfl⟩
      have hds2 : ds = (if (decide (c = 45)) = true then r else c :: r).takeWhile isD := by rw [hne45]; exact hds
      have hdl : ds.length ≤ (c :: r).length := by rw [hds]; exact run_len _ _
      have hda : AllDigits ds := digits_of_isD (by rw [hds]; exact tw_all _ _)
      have hd6 : ds.length ≤ 600 := by have := hk a; rw [hd] at this; rw [hds]; exact this
      rw [← hds]
      wtm_at "rd"
      refine ite2 (fun h => ?_) (fun h => ?_)
      · have hn : ds = [] := List.eq_nil_of_length_eq_zero (by omega)
        intro p hp
        have := q p hp
        rw [lexI_none (ds := ds) hds2 (.inl hn)] at this
        exact this
      · have hn : ds ≠ [] := fun e => h (by rw [e]; simp)
        have hp := len_pos hn
        obtain ⟨d, ds', r', e1, e2, e3⟩ := tw_head hds hn
        have ecd : c = d := by injection e2
        have hcut : cutS (S l) (some ((a : Nat) : Int)) (some ((a + ds.length : Nat) : Int)) = S ds := by
          rw [cut2 (by omega) (by omega), hd, show a + ds.length - a = ds.length by omega, tw_take' hds]
        have good : ¬ (ds.head? = some 48 ∧ ds.length > 1) → tup3 (lexI c r) a = [.str (S [105, 110, 116, 101, 103, 101, 114]), .int (valL false ds), .int ((a + ds.length : Nat) : Int)] := fun h0 => by
          rw [lexI_some (ds := ds) hds2 hn (by rw [hne45]; exact h0), hne45]
          rfl
        refine ⟨le_line (by omega), c, atI_nat hc, ite2 (fun h48 => ?_) (fun h48 => ?_)⟩
        · refine ite2 (fun h1 => ?_) (fun h1 => ?_)
          · intro p hp'
            have := q p hp'
            rw [lexI_none (ds := ds) hds2 (.inr ⟨by rw [e1, ← ecd, h48]; rfl, by rw [hne45]; show ds.length > 1; omega⟩)] at this
            exact this
          · refine ⟨le_line (by omega), valL false ds, ?_, ?_, fun p hp' => ?_⟩
            · rw [hcut]; exact int_pos hda hn hd6
            · rw [hcut, S_len]; omega
            · have := q p hp'
              rw [good (fun z => h1 (by omega))] at this
              exact this
        · refine ⟨le_line (by omega), valL false ds, ?_, ?_, fun p hp' => ?_⟩
          · rw [hcut]; exact int_pos hda hn hd6
          · rw [hcut, S_len]; omega
          · have := q p hp'
            rw [good (fun z => h48 (by rw [e1, ← ecd] at z; simpa using z.1))] at this
            exact this
/-! ### token_at -/
def lexO (l : List Nat) (a : Nat) : Option (Tk × Nat) := match l.drop a with
  | c :: r => lex c r
  | [] => none
def spTokAt : Sp := fun vs H Q _ => ∃ (l : List Nat) (a : Nat), vs = [.str (S l), .int a] ∧ a < l.length ∧ l.length ≤ 1000000 ∧ DigOk l ∧ ∀ p, H p = none → Q (.ref p) (upd H p (.tup (tup3 (lexO l a) a)))
abbrev sc_token_at_N : List Str := ["line", "at", "char", "end"]
abbrev sc_token_at_P : List Str := ["line", "at"]
abbrev sc_token_at_s : Scope := defScope s_token_at
theorem sc_token_at : FnScope sc_token_at_N sc_token_at_P sc_token_at_s := ⟨rfl, rfl, rfl, by decide +kernel, rfl, by decide +kernel, by decide +kernel⟩

theorem ok_token_at (T : Txt K mg) : Cal P w K mg base CX0 3 "token_at" spTokAt := by
  have c_run_end : Cal P w K mg base CX0 1 "run_end" spRunEnd := ok_run_end T
  have c_integer_at : Cal P w K mg base CX0 2 "integer_at" spIntAt := ok_integer_at T
  refine cal0 T.f_token_at T.g_token_at sc_token_at (fun _ _ _ _ _ _ us hl => match us, hl with | [_, _], _ => rfl) (fun vs H Q E h => ?_) (fun cdv A outer s H vs Q E hr h => ?_)
  · obtain ⟨l, a, rfl, _⟩ := h; rfl
  · obtain ⟨l, a, rfl, ha, hl, hk, q⟩ := h
    refine ⟨_, (pss_cons (ps_set (i := 2) sc_token_at.nd rfl (by first | exact Or.inl rfl | exact Or.inr rfl) (pe_ix ix_str (pv 0) (pv 1) (fun _ _ => rfl)))
      (pss_cons (ps_if (pt_cmpR op_in_sign (pv 2) (pe_SIGNS T) rfl) (pss_one (ps_ret (pe_tup (pa_cons (pv 2) (pa_cons (pv 2) (pa_cons (pe_op op_add (pv 1) pe_int) pa_nil)))))) pss_nil)
      (pss_cons (ps_if (pt_cmpR op_in_sign (pv 2) (pe_LETTERS T) rfl) (pss_cons (ps_set (i := 3) sc_token_at.nd rfl (by first | exact Or.inl rfl | exact Or.inr rfl) (pe_c c_run_end hr (pa_cons (pv 0) (pa_cons (pv 1) (pa_cons (pe_LETTERS T) pa_nil)))))
      (pss_one (ps_ret (pe_tup (pa_cons pe_str (pa_cons (pe_slice sl_str (pv 0) (po_some (pv 1)) (po_some (pv 3))) (pa_cons (pv 3) pa_nil))))))) pss_nil)
      (pss_cons (ps_if (pt_cmpR op_ne (pv 2) pe_str (nomark _)) (pss_one (ps_ret (pe_c c_integer_at hr (pa_cons (pv 0) (pa_cons (pv 1) pa_nil))))) pss_nil)
      (pss_cons (ps_set (i := 3) sc_token_at.nd rfl (by first | exact Or.inl rfl | exact Or.inr rfl) (pe_c c_run_end hr (pa_cons (pv 0) (pa_cons (pe_op op_add (pv 1) pe_int) (pa_cons (pe_LETTERS T) pa_nil)))))
      (pss_cons (ps_if (PW.pt (pw_or (pt_cmpR op_eq (pv 3) (pe_op op_add (pv 1) pe_int) (nomark _)) (pw_or1 (pt_cmpR op_ne (pe_slice sl_str (pv 0) (po_some (pv 3)) (po_some (pe_op op_add (pv 3) pe_int))) pe_str (nomark _))))) (pss_one (ps_ret (pe_tup (pa_cons pe_str (pa_cons pe_int (pa_cons (pv 1) pa_nil)))))) pss_nil)
      (pss_one (ps_ret (pe_tup (pa_cons pe_str (pa_cons (pe_slice sl_str (pv 0) (po_some (pe_op op_add (pv 1) pe_int)) (po_some (pv 3))) (pa_cons (pe_op op_add (pv 3) pe_int) pa_nil)))))))))))), ?_⟩
    obtain ⟨c, r, hd⟩ : ∃ c r, l.drop a = c :: r := ⟨_, _, List.drop_eq_getElem_cons ha⟩
    obtain ⟨hlt, hc, hr'⟩ := drop_at hd
    have hO : lexO l a = lex c r := by unfold lexO; rw [hd]
    rw [hO] at q
    unfold lex at q
    wtm_at "rd"
    refine ⟨le_line (by omega), c, atI_nat hc, ite2 (fun h => ?_) (fun h => ?_)⟩
    · intro p hp
      have := q p hp
      rw [if_pos (show isS c = true by simpa [isS] using h)] at this
      exact this
    · rw [if_neg (show ¬ isS c = true by simpa [isS] using h)] at q
      refine ite2 (fun h2 => ?_) (fun h2 => ?_)
      · have h2' : isL c = true := by rw [← mem_letters]; exact decide_eq_true h2
        rw [if_pos h2'] at q
        refine ⟨l, letters, a, rfl, by omega, hl, ?_⟩
        rw [runN_letters, hd]
        wtm_at "rd"
        refine ⟨le_line (by omega), fun p hp => ?_⟩
        have hw := run_len isL (c :: r)
        have hrl : (c :: r).length = l.length - a := by rw [← hd, List.length_drop]
        rw [cut2 (by omega) (by omega), hd, Nat.add_sub_cancel_left, ← tw_take]
        exact q p hp
      · have h2' : ¬ isL c = true := by rw [← mem_letters]; simpa using h2
        rw [if_neg h2'] at q
        dsimp only at q
        refine ite2 (fun h3 => ?_) (fun h3 => ?_)
        · rw [if_neg h3] at q
          exact ⟨l, r, a, c, rfl, hd, hl, hk, q⟩
        · have h3 : c = 34 := Decidable.not_not.mp h3
          rw [if_pos h3] at q
          refine ⟨l, letters, a + 1, rfl, by omega, hl, ?_⟩
          rw [runN_letters, hr']
          have hrl : r.length = l.length - (a + 1) := by rw [← hr', List.length_drop]
          have hw := run_len isL r
          have hdr : ∀ k, l.drop (a + 1 + k) = r.drop k := fun k => by rw [← hr', List.drop_drop]
          have htk := tw_take isL r
          generalize r.takeWhile isL = u at q hw htk ⊢
          wtm_at "rd"
          refine ite2 (fun h4 => ?_) (fun h4 => ?_)
          · have hu : u = [] := List.eq_nil_of_length_eq_zero (by omega)
            rw [if_neg (fun z => z.1 hu)] at q
            exact q
          · have hu : u ≠ [] := fun e => h4 (by rw [e]; simp)
            have hcut : cutS (S l) (some ((a + 1 + u.length : Nat) : Int)) (some ((a + 1 + u.length + 1 : Nat) : Int)) = S ((r.drop u.length).take 1) := by
              by_cases hb : a + 1 + u.length + 1 ≤ l.length
              · rw [cut2 (by omega) hb, hdr, Nat.add_sub_cancel_left]
              · have he : a + 1 + u.length = l.length := by omega
                unfold cutS
                rw [HT.sIx_nat, HT.sIx_nat, S_len, he, Nat.min_self, Nat.min_eq_right (by omega), Nat.sub_self]
                rw [show r.drop u.length = [] from List.drop_eq_nil_of_le (by omega)]
                rfl
            have e34 : (S ((r.drop u.length).take 1) = S [34]) ↔ (r.drop u.length).head? = some 34 := by
              rw [S_eq]
              cases r.drop u.length with
              | nil => simp
              | cons x y => simp
            refine ⟨le_line (by omega), ite2 (fun h5 => ?_) (fun h5 => ?_)⟩
            · rw [hcut, e34] at h5
              rw [if_neg (fun z => h5 z.2)] at q
              exact q
            · rw [hcut, e34] at h5
              have h5 := Decidable.not_not.mp h5
              rw [if_pos ⟨hu, h5⟩] at q
              have hlt2 : u.length < r.length := by
                cases hx : r.drop u.length with
                | nil => rw [hx] at h5; simp at h5
                | cons x y =>
                  have := congrArg List.length hx
                  rw [List.length_drop, List.length_cons] at this
                  omega
              refine ⟨le_line (by omega), fun p hp => ?_⟩
              have := q p hp
              rw [cut2 (by omega) (by omega), hr', Nat.add_sub_cancel_left, ← htk]
              rw [show a + 1 + u.length + 1 = a + (u.length + 2) by omega]
              exact this
end
end K26

end
section
set_option linter.all false
set_option maxRecDepth 100000
set_option maxHeartbeats 4000000
namespace K26
open PySem PySem.Spec PyProof.Rows L2
open SX (S S_len S_cat S_inj)
open PySem.NumText
local macro_rules | `(tactic| wtm_at "rd") => `(tactic| try simp only [tSeq, tAsg, tVar, tC, gName, tRet, tRetN, tIfS, tNext, tDrop, tOp, tUn, rI0, rI, rU, tTest, tB, tAnd, tOr, tNot, tAndV, tOrV, tNotV, tIf, tCB, tCons, tNil, tTup, tLst, tCall, tSl, tPart, tNoPart, tBM, tBM0, gTup, gCons, gNil, gSub, tAug, ipI, rEq, rNe, sc_ii, sc_ss, sc_bb, sc_nn, sc_is, sc_si, sc_ns, sc_sn, sc_ni, sc_in, z0, z1, z2, z3, z4, z5, if_true, if_false, Bool.not_eq_true', decide_eq_false_iff_not, rIxS, rSlS, rSlL, tAugS, rGetL, cast1, rIxL, rIxT, rSetL, rAppend, rPop, rPopAt, rReverse, rCat, tYes, iRng1, iRng2, tMkBad, rIn, tFld, sFld, sFldAug, rAdd, tMeth, tMake, tCallS, tBadF, tM1, iList, iTup, iEnum, iEnumT, iStr, tBreak, C8.tCut, tFor_eq, tLc_eq, wipe_1,
  L2.start, List.map_cons, List.map_nil, List.cons_append, List.nil_append, List.append_nil, List.length_cons, List.length_nil, Nat.reduceAdd, Nat.reduceSub, List.replicate_succ, List.replicate_zero,
  List.getElem?_cons_succ, List.getElem?_cons_zero, List.set_cons_succ, List.set_cons_zero, Option.some.injEq, V.int.injEq, V.str.injEq, V.ref.injEq, V.bl.injEq, List.cons.injEq, and_assoc, and_true, true_and, exists_eq_left', exists_eq_left, exists_and_left, exists_and_right, exists_eq, decide_eq_true_eq, reduceCtorEq, false_and, and_false, exists_false, false_or, or_false, S_len, S_eq, k0, k1, k2, k3, k4, k5, k6, k7, k8, k9, k10, k11, k12, k13, k14, k15, k16, k17, k18, k19, k20, k21, k22, k23, k24, k25, k26, k27, k28, k29, k30, k31, k32, k33, k34, k35, k36, k37, k38, k39, k40, k41, k42, k43, k44, k45, k46, k47, k48, k49, k50, k51, k52, k53, Nat.zero_add])

section
variable {P : Program} {w : World} {K : PySem.W.Frag} {mg : Str → Option Value} {base : Heap}
/-! ### tokens_of -/
theorem pr_app {α β : Type} {F : α → β → Prop} : ∀ {xs ys : List α} {us ws : List β}, Paired F xs us → Paired F ys ws → Paired F (xs ++ ys) (us ++ ws)
  | _, _, _, _, .nil, s => s
  | _, _, _, _, .cons r t, s => .cons r (pr_app t s)
theorem pr_get {α β : Type} {F : α → β → Prop} : ∀ {xs : List α} {us : List β} {i : Nat} {u : β}, Paired F xs us → us[i]? = some u → ∃ x, xs[i]? = some x ∧ F x u
  | _, _, _, _, .nil, e => by simp at e
  | _, _, 0, _, .cons r _, e => by simp at e; subst e; exact ⟨_, rfl, r⟩
  | _, _, i + 1, u, .cons _ t, e => by
    obtain ⟨x, h1, h2⟩ := pr_get (i := i) (u := u) t (by simpa using e)
    exact ⟨x, by simpa using h1, h2⟩
def tokV (t : Nat × Tk) : List V := [.int (t.1 : Int), .str (S (kindS t.2)), valV t.2]
abbrev TokR (H : Hp) : List V → List (Nat × Tk) → Prop := Paired fun v t => ∃ a, v = V.ref a ∧ H a = some (.tup (tokV t))
theorem TokR.mono {H H' : Hp} {xs : List V} {ts : List (Nat × Tk)} (s : Same H H') (h : TokR H xs ts) : TokR H' xs ts := Paired.mapP h fun _ _ ⟨a, e, h⟩ => ⟨a, e, s _ _ h⟩
theorem same_new {H : Hp} {p : Addr} (h : H p = none) (o : HO) : Same H (upd H p o) := fun b u q => by rw [upd_ne (ne_of_none q h)]; exact q
theorem same_mut {H H' : Hp} {p : Addr} {o : HO} (s : Same H H') (h : H p = none) : Same H (upd H' p o) := fun b u q => by rw [upd_ne (ne_of_none q h)]; exact s _ _ q
def spToksOf : Sp := fun vs H Q _ => ∃ (l : List Nat), vs = [.str (S l)] ∧ l.length ≤ 1000000 ∧ DigOk l ∧ ∀ p H' xs, Same H H' → H p = none → H' p = some (.lst xs) → TokR H' xs (toks 0 l) → Q (.ref p) H'
theorem kindS_ne {t : Tk} (h : t ≠ .bad) : kindS t ≠ [] := by
  cases t <;> simp [kindS] at h ⊢
theorem toks_len : ∀ (m off : Nat) (s : List Nat), s.length ≤ m → (toks off s).length ≤ s.length + 1
  | m, off, s, hm => by
    cases h : s.drop (spn s) with
    | nil => rw [toks_nil h]; simp
    | cons c r =>
      cases h' : lex c r with
      | none => rw [toks_bad h h']; simp
      | some p =>
        obtain ⟨t, n⟩ := p
        have h1 := (lex_len h').1
        have h2 : 0 < (s.drop (spn s)).length := by rw [h]; simp
        rw [List.length_drop] at h2
        rw [toks_cons h h']
        cases m with
        | zero => omega
        | succ m =>
          have := toks_len m (off + spn s + n) (s.drop (spn s + n)) (by rw [List.length_drop]; omega)
          rw [List.length_cons]
          rw [List.length_drop] at this
          omega
abbrev sc_tokens_of_N : List Str := ["line", "tokens", "at", "kind", "value", "end"]
abbrev sc_tokens_of_P : List Str := ["line"]
abbrev sc_tokens_of_s : Scope := defScope s_tokens_of
theorem sc_tokens_of : FnScope sc_tokens_of_N sc_tokens_of_P sc_tokens_of_s := ⟨rfl, rfl, rfl, by decide +kernel, rfl, by decide +kernel, by decide +kernel⟩

theorem ok_tokens_of (T : Txt K mg) : Cal P w K mg base CX0 4 "tokens_of" spToksOf := by
  have c_run_end : Cal P w K mg base CX0 1 "run_end" spRunEnd := ok_run_end T
  have c_token_at : Cal P w K mg base CX0 3 "token_at" spTokAt := ok_token_at T
  refine cal0 T.f_tokens_of T.g_tokens_of sc_tokens_of (fun _ _ _ _ _ _ us hl => match us, hl with | [_], _ => rfl) (fun vs H Q E h => ?_) (fun cdv A outer s H vs Q E hr h => ?_)
  · obtain ⟨l, rfl, _⟩ := h; rfl
  · obtain ⟨l, rfl, hl, hk, q⟩ := h
    refine ⟨_, (pss_cons (ps_set (i := 1) sc_tokens_of.nd rfl (by first | exact Or.inl rfl | exact Or.inr rfl) (pe_lst pa_nil))
      (pss_cons (ps_set (i := 2) sc_tokens_of.nd rfl (by first | exact Or.inl rfl | exact Or.inr rfl) (pe_c c_run_end hr (pa_cons (pv 0) (pa_cons pe_int (pa_cons pe_str pa_nil)))))
      (pss_cons (ps_while PassesOwn.never (pt_cmpR op_lt (pv 2) (pe_callB call_len_str (by rfl) T.b_len boot_len (pa_cons (pv 0) pa_nil)) (nomark _)) (pss_cons (ps_asg (pe_c c_token_at hr (pa_cons (pv 0) (pa_cons (pv 2) pa_nil))) (pg_tup (by rfl) (pgs_cons (pg_name (i := 3) sc_tokens_of.nd rfl (by first | exact Or.inl rfl | exact Or.inr rfl)) (pgs_cons (pg_name (i := 4) sc_tokens_of.nd rfl (by first | exact Or.inl rfl | exact Or.inr rfl)) (pgs_cons (pg_name (i := 5) sc_tokens_of.nd rfl (by first | exact Or.inl rfl | exact Or.inr rfl)) pgs_nil)))))
      (pss_cons (ps_expr (pe_bm PySem.F.plainAttrs_list PySem.F.slot_list_append PySem.F.type_list_append mt_append (pv 1) (pa_cons (pe_tup (pa_cons (pv 2) (pa_cons (pv 3) (pa_cons (pv 4) pa_nil)))) pa_nil)))
      (pss_cons (ps_if (pt_cmpR op_eq (pv 3) pe_str (nomark _)) (pss_one (ps_ret (pv 1))) pss_nil)
      (pss_one (ps_set (i := 2) sc_tokens_of.nd rfl (by first | exact Or.inl rfl | exact Or.inr rfl) (pe_c c_run_end hr (pa_cons (pv 0) (pa_cons (pv 5) (pa_cons pe_str pa_nil))))))))))
      (pss_cons (ps_expr (pe_bm PySem.F.plainAttrs_list PySem.F.slot_list_append PySem.F.type_list_append mt_append (pv 1) (pa_cons (pe_tup (pa_cons (pe_callB call_len_str (by rfl) T.b_len boot_len (pa_cons (pv 0) pa_nil)) (pa_cons pe_str (pa_cons pe_int pa_nil)))) pa_nil)))
      (pss_one (ps_ret (pv 1))))))), ?_⟩
    wtm_at "rd"
    intro p hp
    refine ⟨l, [32], 0, rfl, by omega, hl, ?_⟩
    wtm_at "rd"
    have hall := toks_len l.length 0 l (Nat.le_refl _)
    obtain ⟨W, hW⟩ := opq3 fun m σ' H' => ∃ (off at_ : Nat) (xs : List V) (done : List (Nat × Tk)) (u1 u2 u3 : Option V), Same H H' ∧ H' p = some (.lst xs) ∧ TokR H' xs done ∧ off ≤ l.length ∧ at_ = off + spn (l.drop off) ∧ done ++ toks off (l.drop off) = toks 0 l ∧ m = l.length - at_ ∧
      σ' = [some (.str (S l)), some (.ref p), some (.int (at_ : Int)), u1, u2, u3]
    refine ⟨W, ⟨_, (hW _ _ _).mpr ⟨0, _, [], [], none, none, none, same_new hp _, upd_same, .nil, by omega, rfl, rfl, rfl, ?_⟩⟩, fun m σ' H' hw => ?_⟩
    · rw [runN_space]
    · obtain ⟨off, at_, xs, done, u1, u2, u3, hs, hx, ht, ho, hat, hd, rfl, rfl⟩ := (hW _ _ _).mp hw
      have hxl : xs.length ≤ l.length + 1 := by
        rw [ht.length]
        have := congrArg List.length hd
        rw [List.length_append] at this
        omega
      have hsp := spn_le (l.drop off)
      rw [List.length_drop] at hsp
      have hdd : l.drop at_ = (l.drop off).drop (spn (l.drop off)) := by rw [List.drop_drop, hat]
      have hpx : ∀ {tp : Addr} {o : HO}, H' tp = none → upd H' tp o p = some (.lst xs) := fun {tp o} h => by rw [upd_ne (ne_of_none hx h)]; exact hx
      wtm_at "rd"
      refine ⟨le_line (by omega), ite2 (fun h => ?_) (fun h => ?_)⟩
      · have hlt : at_ < l.length := by omega
        refine ⟨fun σ' H' => ∃ m', m' < l.length - at_ ∧ W m' σ' H', fun σ' H' z => z, ?_⟩
        refine ⟨l, at_, rfl, hlt, hl, hk, fun tp htp => ?_⟩
        have s1 : Same H' (upd H' tp (.tup (tup3 (lexO l at_) at_))) := same_new htp _
        obtain ⟨c, r, hcr⟩ : ∃ c r, l.drop at_ = c :: r := ⟨_, _, List.drop_eq_getElem_cons hlt⟩
        have hO : lexO l at_ = lex c r := by unfold lexO; rw [hcr]
        have hlen3 : (tup3 (lexO l at_) at_).length = 3 := by unfold tup3; split <;> rfl
        wtm_at "rd"
        refine ⟨_, SqT.of upd_same, hlen3, ?_⟩
        rw [hO] at s1 ⊢
        rw [hdd] at hcr
        cases hlex : lex c r with
        | none =>
          rw [hlex] at s1
          have hb := toks_bad (off := off) hcr hlex
          rw [hb, ← hat] at hd
          unfold tup3
          wtm_at "rd"
          refine ⟨tyL (hpx htp), fun tp2 htp2 => ⟨xs, by rw [upd_ne (ne_of_none (hpx htp) htp2)]; exact hpx htp, lt_line (by omega), ?_⟩⟩
          have s2 := s1.trans (same_new htp2 (.tup [V.int (at_ : Int), V.str (S []), V.int 0]))
          refine q p _ (xs ++ [.ref tp2]) (same_mut (hs.trans s2) hp) hp upd_same ?_
          rw [← hd]
          have hne : tp2 ≠ p := (ne_of_none (hpx htp) htp2).symm
          refine pr_app (Paired.mapP ht fun v t ⟨a, e, h⟩ => ⟨a, e, ?_⟩) (.cons ⟨tp2, rfl, by rw [upd_ne hne, upd_same]; rfl⟩ .nil)
          rw [upd_ne (ne_of h hx (by intro z; cases z))]
          exact s2 _ _ h
        | some tn =>
          obtain ⟨t, n⟩ := tn
          rw [hlex] at s1
          have hb := toks_cons (off := off) hcr hlex
          have hn := lex_len hlex
          have hln : (c :: r).length = l.length - at_ := by rw [← hcr, ← hdd, List.length_drop]
          have hdn : (l.drop off).drop (spn (l.drop off) + n) = l.drop (at_ + n) := by rw [List.drop_drop, hat, Nat.add_assoc]
          rw [hb, ← hat, hdn] at hd
          unfold tup3
          wtm_at "rd"
          refine ⟨tyL (hpx htp), fun tp2 htp2 => ⟨xs, by rw [upd_ne (ne_of_none (hpx htp) htp2)]; exact hpx htp, lt_line (by omega), ?_⟩⟩
          rw [if_neg (kindS_ne (lex_not hlex).2)]
          refine ⟨l, [32], at_ + n, rfl, by omega, hl, ?_⟩
          wtm_at "rd"
          have s2 := s1.trans (same_new htp2 (.tup [V.int (at_ : Int), V.str (S (kindS t)), valV t]))
          have hne : tp2 ≠ p := (ne_of_none (hpx htp) htp2).symm
          have hspn := spn_le (l.drop (at_ + n))
          rw [List.length_drop] at hspn
          refine ⟨l.length - runN [32] l (at_ + n), ?_, (hW _ _ _).mpr ⟨at_ + n, _, xs ++ [.ref tp2], done ++ [(at_, t)], _, _, _, same_mut (hs.trans s2) hp, upd_same, ?_, by omega, by rw [← runN_space], by rw [List.append_assoc]; exact hd, rfl, rfl⟩⟩
          · rw [runN_space]; omega
          · refine pr_app (Paired.mapP ht fun v t ⟨a, e, h⟩ => ⟨a, e, ?_⟩) (.cons ⟨tp2, rfl, by rw [upd_ne hne, upd_same]; rfl⟩ .nil)
            rw [upd_ne (ne_of h hx (by intro z; cases z))]
            exact s2 _ _ h
      · have he : at_ = l.length := by omega
        have hb := toks_nil (off := off) (s := l.drop off) (by rw [← hdd, he]; exact List.drop_length ..)
        rw [hb, ← hat] at hd
        refine ⟨tyL hx, le_line (by omega), fun tp2 htp2 => ⟨xs, by rw [upd_ne (ne_of_none hx htp2)]; exact hx, lt_line (by omega), ?_⟩⟩
        have s2 := same_new htp2 (.tup [V.int (l.length : Int), V.str (S [101, 110, 100]), V.int 0])
        have hne : tp2 ≠ p := (ne_of_none hx htp2).symm
        refine q p _ (xs ++ [.ref tp2]) (same_mut (hs.trans s2) hp) hp upd_same ?_
        rw [← hd, he]
        refine pr_app (Paired.mapP ht fun v t ⟨a, e, h⟩ => ⟨a, e, ?_⟩) (.cons ⟨tp2, rfl, by rw [upd_ne hne, upd_same]; rfl⟩ .nil)
        rw [upd_ne (ne_of h hx (by intro z; cases z))]
        exact s2 _ _ h
end
end K26

end
section
set_option linter.all false
set_option maxRecDepth 100000
set_option maxHeartbeats 4000000
namespace K26
open PySem PySem.Spec PyProof.Rows L2
open SX (S S_len S_cat S_inj)
open PySem.NumText
local macro_rules | `(tactic| wtm_at "rd") => `(tactic| try simp only [tSeq, tAsg, tVar, tC, gName, tRet, tRetN, tIfS, tNext, tDrop, tOp, tUn, rI0, rI, rU, tTest, tB, tAnd, tOr, tNot, tAndV, tOrV, tNotV, tIf, tCB, tCons, tNil, tTup, tLst, tCall, tSl, tPart, tNoPart, tBM, tBM0, gTup, gCons, gNil, gSub, tAug, ipI, rEq, rNe, sc_ii, sc_ss, sc_bb, sc_nn, sc_is, sc_si, sc_ns, sc_sn, sc_ni, sc_in, z0, z1, z2, z3, z4, z5, if_true, if_false, Bool.not_eq_true', decide_eq_false_iff_not, rIxS, rSlS, rSlL, tAugS, rGetL, cast1, rIxL, rIxT, rSetL, rAppend, rPop, rPopAt, rReverse, rCat, tYes, iRng1, iRng2, tMkBad, rIn, tFld, sFld, sFldAug, rAdd, tMeth, tMake, tCallS, tBadF, tM1, iList, iTup, iEnum, iEnumT, iStr, tBreak, C8.tCut, tFor_eq, tLc_eq, wipe_1,
  L2.start, List.map_cons, List.map_nil, List.cons_append, List.nil_append, List.append_nil, List.length_cons, List.length_nil, Nat.reduceAdd, Nat.reduceSub, List.replicate_succ, List.replicate_zero,
  List.getElem?_cons_succ, List.getElem?_cons_zero, List.set_cons_succ, List.set_cons_zero, Option.some.injEq, V.int.injEq, V.str.injEq, V.ref.injEq, V.bl.injEq, List.cons.injEq, and_assoc, and_true, true_and, exists_eq_left', exists_eq_left, exists_and_left, exists_and_right, exists_eq, decide_eq_true_eq, reduceCtorEq, false_and, and_false, exists_false, false_or, or_false, S_len, S_eq, k0, k1, k2, k3, k4, k5, k6, k7, k8, k9, k10, k11, k12, k13, k14, k15, k16, k17, k18, k19, k20, k21, k22, k23, k24, k25, k26, k27, k28, k29, k30, k31, k32, k33, k34, k35, k36, k37, k38, k39, k40, k41, k42, k43, k44, k45, k46, k47, k48, k49, k50, k51, k52, k53, Nat.zero_add])

section
/-! ### the object Line -/
def LineF (L : Addr) (n : Nat) : List (Str × V) := [("number", .int 0), ("tokens", .ref L), ("many", .int n)]
theorem lkN (L : Addr) (n : Nat) : List.lookup ("number" : Str) (LineF L n) = some (V.int 0) := by kernel_rfl
theorem lkT (L : Addr) (n : Nat) : List.lookup ("tokens" : Str) (LineF L n) = some (V.ref L) := by kernel_rfl
theorem lkM (L : Addr) (n : Nat) : List.lookup ("many" : Str) (LineF L n) = some (V.int n) := by kernel_rfl
theorem lk_kind (L : Addr) (n : Nat) : List.lookup ("kind" : Str) (LineF L n) = none := by kernel_rfl
theorem lk_value (L : Addr) (n : Nat) : List.lookup ("value" : Str) (LineF L n) = none := by kernel_rfl
theorem lk_refuse (L : Addr) (n : Nat) : List.lookup ("refuse" : Str) (LineF L n) = none := by kernel_rfl
theorem lk_take (L : Addr) (n : Nat) : List.lookup ("take" : Str) (LineF L n) = none := by kernel_rfl
theorem lk_term (L : Addr) (n : Nat) : List.lookup ("term" : Str) (LineF L n) = none := by kernel_rfl
theorem lk_take_term (L : Addr) (n : Nat) : List.lookup ("take_term" : Str) (LineF L n) = none := by kernel_rfl
theorem puM (L : Addr) (n : Nat) (k : Nat) : putF "many" (.int (k : Int)) (LineF L n) = LineF L k := by
  unfold LineF putF
  rw [if_neg (by decide +kernel)]
  unfold putF
  rw [if_neg (by decide +kernel)]
  unfold putF
  rw [if_pos rfl]
theorem puAll (L : Addr) : putF "many" (.int 0) (putF "tokens" (.ref L) (putF "number" (.int 0) [])) = LineF L 0 := by kernel_rfl
structure LineAt (C : Addr) (H : Hp) (x : Addr) (ts : List (Nat × Tk)) (n : Nat) : Prop where
  ex : ∃ dx L xs, H x = some (.ins C dx (LineF L n)) ∧ H L = some (.lst xs) ∧ TokR H xs ts ∧ ts.length ≤ 1000001
theorem lst_ins {xs : List V} {C dx : Addr} {fs : List (Str × V)} : (HO.lst xs) ≠ .ins C dx fs := fun z => by cases z
theorem tup_ins {xs : List V} {C dx : Addr} {fs : List (Str × V)} : (HO.tup xs) ≠ .ins C dx fs := fun z => by cases z
/-- what stands but the line -/
theorem LineAt.kp {C x : Addr} {H H' : Hp} {ts : List (Nat × Tk)} {n m : Nat} (h : LineAt C H x ts n) (k : Kp x H H') (hx : ∀ dx L, H x = some (.ins C dx (LineF L n)) → H' x = some (.ins C dx (LineF L m))) : LineAt C H' x ts m := by
  obtain ⟨dx, L, xs, h1, h2, h3, h4⟩ := h.ex
  exact ⟨dx, L, xs, hx _ _ h1, k _ _ (ne_of h2 h1 lst_ins) h2, Paired.mapP h3 fun _ _ ⟨a, e, h⟩ => ⟨a, e, k _ _ (ne_of h h1 tup_ins) h⟩, h4⟩
theorem LineAt.same {C x : Addr} {H H' : Hp} {ts : List (Nat × Tk)} {n : Nat} (h : LineAt C H x ts n) (k : Same H H') : LineAt C H' x ts n := h.kp (Kp.same k) fun _ _ e => k _ _ e
/-- the error wished for at a place of the text -/
def BadW (CB x : Addr) (H : Hp) (E : XK) (at_ : Nat) : Prop := ∀ d H', Kp x H H' → H' d = some (.xd (xdF (.int 0) (.int (at_ : Int)))) → E (.ref CB) (some d) H'
theorem BadW.kp {CB x : Addr} {H H' : Hp} {E : XK} {a : Nat} (h : BadW CB x H E a) (k : Kp x H H') : BadW CB x H' E a := fun d H2 k2 e => h d H2 (k.trans k2) e
theorem inV2 (k a b : List Nat) : inV (.str (S k)) [.str (S a), .str (S b)] = (decide (a = k) || decide (b = k)) := by
  show ((S a == S k) || ((S b == S k) || false)) = _
  rw [SX.S_beq, SX.S_beq, Bool.or_false]
  have e : ∀ x y : List Nat, (x == y) = decide (x = y) := fun x y => by by_cases h : x = y <;> simp [h]
  rw [e, e]
/-! ### the promises -/
def spKind (C : Addr) : Sp := fun vs H Q _ => ∃ (x : Addr) (ts : List (Nat × Tk)) (n a : Nat) (t : Tk), vs = [.ref x] ∧ LineAt C H x ts n ∧ ts[n]? = some (a, t) ∧ Q (.str (S (kindS t))) H
def spValue (C : Addr) : Sp := fun vs H Q _ => ∃ (x : Addr) (ts : List (Nat × Tk)) (n a : Nat) (t : Tk), vs = [.ref x] ∧ LineAt C H x ts n ∧ ts[n]? = some (a, t) ∧ Q (valV t) H
def spRefuse (C CB : Addr) : Sp := fun vs H Q E => ∃ (x : Addr) (ts : List (Nat × Tk)) (n a : Nat) (t : Tk), vs = [.ref x] ∧ LineAt C H x ts n ∧ ts[n]? = some (a, t) ∧ BadW CB x H E a
def spTake (C CB : Addr) : Sp := fun vs H Q E => ∃ (x : Addr) (ts : List (Nat × Tk)) (n a : Nat) (t : Tk) (k : List Nat), vs = [.ref x, .str (S k)] ∧ LineAt C H x ts n ∧ ts[n]? = some (a, t) ∧
  (kindS t = k → ∀ H', Kp x H H' → LineAt C H' x ts (n + 1) → Q (valV t) H') ∧ (kindS t ≠ k → BadW CB x H E a)
def termV : Tk → Option (List V)
  | .wd w => some [.str (S [118, 97, 114]), .str (S w)]
  | .qd w => some [.str (S [118, 97, 108, 117, 101]), .str (S w)]
  | .it i => some [.str (S [118, 97, 108, 117, 101]), .int i]
  | _ => none
def spTerm (C : Addr) : Sp := fun vs H Q _ => ∃ (x : Addr) (ts : List (Nat × Tk)) (n a : Nat) (t : Tk), vs = [.ref x] ∧ LineAt C H x ts n ∧ ts[n]? = some (a, t) ∧
  (termV t = none → ∀ H', Same H H' → Q .non H') ∧ (∀ l, termV t = some l → ∀ p H', Same H H' → H' p = some (.tup l) → Q (.ref p) H')
def spTakeTerm (C CB : Addr) : Sp := fun vs H Q E => ∃ (x : Addr) (ts : List (Nat × Tk)) (n a : Nat) (t : Tk), vs = [.ref x] ∧ LineAt C H x ts n ∧ ts[n]? = some (a, t) ∧
  (termV t = none → BadW CB x H E a) ∧ (∀ l, termV t = some l → ∀ p H', Kp x H H' → LineAt C H' x ts (n + 1) → H' p = some (.tup l) → Q (.ref p) H')
/-- the token at hand, in the heap -/
theorem LineAt.tok {C x : Addr} {H : Hp} {ts : List (Nat × Tk)} {n a : Nat} {t : Tk} (h : LineAt C H x ts n) (e : ts[n]? = some (a, t)) :
    ∃ dx L xs b, H x = some (.ins C dx (LineF L n)) ∧ H L = some (.lst xs) ∧ atI xs (n : Int) = some (.ref b) ∧ H b = some (.tup [.int (a : Int), .str (S (kindS t)), valV t]) := by
  obtain ⟨dx, L, xs, h1, h2, h3, h4⟩ := h.ex
  obtain ⟨v, hv, b, e1, e2⟩ := pr_get h3 e
  subst e1
  exact ⟨dx, L, xs, b, h1, h2, atI_nat hv, e2⟩
variable {P : Program} {w : World} {K : PySem.W.Frag} {mg : Str → Option Value} {base : Heap} {CB fI : Addr}
abbrev CL (K : PySem.W.Frag) : Addr := He.ga K "Line"
abbrev sc_Line_kind_N : List Str := ["self"]
abbrev sc_Line_kind_P : List Str := ["self"]
abbrev sc_Line_kind_s : Scope := defScope s_Line_kind
theorem sc_Line_kind : FnScope sc_Line_kind_N sc_Line_kind_P sc_Line_kind_s := ⟨rfl, rfl, rfl, by decide +kernel, rfl, by decide +kernel, by decide +kernel⟩

theorem ok_kind (T : Txt K mg) : Met P w K mg base CX0 1 (CL K) "kind" (spKind (CL K)) := by
  refine met0 T.cls_Line T.m_kind T.f_Line_kind sc_Line_kind (fun _ _ _ _ _ _ us hl => match us, hl with | [_], _ => rfl) (fun vs H Q E h => ?_) (fun cdv A outer s H vs Q E hr h => ?_)
  · obtain ⟨x, ts, n, a, t, rfl, _⟩ := h; rfl
  · obtain ⟨x, ts, n, a, t, rfl, hL, ht, q⟩ := h
    obtain ⟨dx, L, xs, b, h1, h2, h3, h4⟩ := hL.tok ht
    refine ⟨_, (pss_one (ps_ret (pe_ix ix_tup (pe_ix ix_list (pe_fld (pv 0) rfl) (pe_fld (pv 0) rfl) (fun _ _ => rfl)) pe_int (fun _ _ => rfl)))), ?_⟩
    wtm_at "rd"
    refine ⟨_, dx, _, h1, T.cls_Line, T.no_tokens, _, lkT _ _, ?_⟩
    wtm_at "rd"
    exact ⟨_, dx, _, h1, T.cls_Line, T.no_many, _, lkM _ _, _, _, rfl, SqL.of h2, _, h3, b, rfl, _, SqT.of h4, _, rfl, q⟩
abbrev sc_Line_value_N : List Str := ["self"]
abbrev sc_Line_value_P : List Str := ["self"]
abbrev sc_Line_value_s : Scope := defScope s_Line_value
theorem sc_Line_value : FnScope sc_Line_value_N sc_Line_value_P sc_Line_value_s := ⟨rfl, rfl, rfl, by decide +kernel, rfl, by decide +kernel, by decide +kernel⟩

theorem ok_value (T : Txt K mg) : Met P w K mg base CX0 1 (CL K) "value" (spValue (CL K)) := by
  refine met0 T.cls_Line T.m_value T.f_Line_value sc_Line_value (fun _ _ _ _ _ _ us hl => match us, hl with | [_], _ => rfl) (fun vs H Q E h => ?_) (fun cdv A outer s H vs Q E hr h => ?_)
  · obtain ⟨x, ts, n, a, t, rfl, _⟩ := h; rfl
  · obtain ⟨x, ts, n, a, t, rfl, hL, ht, q⟩ := h
    obtain ⟨dx, L, xs, b, h1, h2, h3, h4⟩ := hL.tok ht
    refine ⟨_, (pss_one (ps_ret (pe_ix ix_tup (pe_ix ix_list (pe_fld (pv 0) rfl) (pe_fld (pv 0) rfl) (fun _ _ => rfl)) pe_int (fun _ _ => rfl)))), ?_⟩
    wtm_at "rd"
    refine ⟨_, dx, _, h1, T.cls_Line, T.no_tokens, _, lkT _ _, ?_⟩
    wtm_at "rd"
    exact ⟨_, dx, _, h1, T.cls_Line, T.no_many, _, lkM _ _, _, _, rfl, SqL.of h2, _, h3, b, rfl, _, SqT.of h4, _, rfl, q⟩
abbrev sc_Line_refuse_N : List Str := ["self"]
abbrev sc_Line_refuse_P : List Str := ["self"]
abbrev sc_Line_refuse_s : Scope := defScope s_Line_refuse
theorem sc_Line_refuse : FnScope sc_Line_refuse_N sc_Line_refuse_P sc_Line_refuse_s := ⟨rfl, rfl, rfl, by decide +kernel, rfl, by decide +kernel, by decide +kernel⟩

theorem ok_refuse (T : Txt K mg) (B : BadTxt K mg CB fI) (BP : BadP P) : Met P w K mg base (L2.CX P w) 3 (CL K) "refuse" (spRefuse (CL K) CB) := by
  refine metX T.cls_Line T.m_refuse T.f_Line_refuse sc_Line_refuse (fun _ _ _ _ _ _ us hl => match us, hl with | [_], _ => rfl) (fun vs H Q E h => ?_) (fun cdv A outer s H vs Q E hr h => ?_)
  · obtain ⟨x, ts, n, a, t, rfl, _⟩ := h; rfl
  · obtain ⟨x, ts, n, a, t, rfl, hL, ht, q⟩ := h
    obtain ⟨dx, L, xs, b, h1, h2, h3, h4⟩ := hL.tok ht
    refine ⟨_, (pss_one (ps_raise rfl (takes_of rfl rfl rfl rfl) (pmk_bad B BP hr (pa_cons (pe_fld (pv 0) rfl) (pa_cons (pe_ix ix_tup (pe_ix ix_list (pe_fld (pv 0) rfl) (pe_fld (pv 0) rfl) (fun _ _ => rfl)) pe_int (fun _ _ => rfl)) pa_nil))))), ?_⟩
    wtm_at "rd"
    refine ⟨_, dx, _, h1, T.cls_Line, T.no_number, _, lkN _ _, ?_⟩
    wtm_at "rd"
    refine ⟨_, dx, _, h1, T.cls_Line, T.no_tokens, _, lkT _ _, ?_⟩
    wtm_at "rd"
    refine ⟨_, dx, _, h1, T.cls_Line, T.no_many, _, lkM _ _, _, _, rfl, SqL.of h2, _, h3, b, rfl, _, SqT.of h4, _, rfl, ?_⟩
    exact fun d hd => q d _ (Kp.same (same_new hd _)) upd_same
abbrev sc_Line_take_N : List Str := ["self", "kind", "value"]
abbrev sc_Line_take_P : List Str := ["self", "kind"]
abbrev sc_Line_take_s : Scope := defScope s_Line_take
theorem sc_Line_take : FnScope sc_Line_take_N sc_Line_take_P sc_Line_take_s := ⟨rfl, rfl, rfl, by decide +kernel, rfl, by decide +kernel, by decide +kernel⟩

theorem ok_take (T : Txt K mg) (B : BadTxt K mg CB fI) (BP : BadP P) : Met P w K mg base (L2.CX P w) 4 (CL K) "take" (spTake (CL K) CB) := by
  have c_kind : Met P w K mg base CX0 1 (CL K) "kind" (spKind (CL K)) := ok_kind T
  have c_value : Met P w K mg base CX0 1 (CL K) "value" (spValue (CL K)) := ok_value T
  have c_refuse : Met P w K mg base (L2.CX P w) 3 (CL K) "refuse" (spRefuse (CL K) CB) := ok_refuse T B BP
  refine metX T.cls_Line T.m_take T.f_Line_take sc_Line_take (fun _ _ _ _ _ _ us hl => match us, hl with | [_, _], _ => rfl) (fun vs H Q E h => ?_) (fun cdv A outer s H vs Q E hr h => ?_)
  · obtain ⟨x, ts, n, a, t, k, rfl, _⟩ := h; rfl
  · obtain ⟨x, ts, n, a, t, k, rfl, hL, ht, q1, q2⟩ := h
    obtain ⟨dx, L, xs, b, h1, h2, h3, h4⟩ := hL.tok ht
    refine ⟨_, (pss_cons (ps_if (pt_cmpR op_ne (pe_mx0 c_kind hr (by omega) pass0 (pv 0)) (pv 1) (nomark _)) (pss_one (ps_expr (pe_mx0 c_refuse hr (by omega) (passes_call (takes_of rfl rfl rfl rfl) (fun _ _ _ _ h => h)) (pv 0)))) pss_nil)
      (pss_cons (ps_set (i := 2) sc_Line_take.nd rfl (by first | exact Or.inl rfl | exact Or.inr rfl) (pe_mx0 c_value hr (by omega) pass0 (pv 0)))
      (pss_cons (ps_fldaug (pv 0) pe_int in_add)
      (pss_one (ps_ret (pv 2)))))), ?_⟩
    wtm_at "rd"
    refine ⟨dx, _, h1, lk_kind _ _, x, ts, n, a, t, rfl, hL, ht, ?_⟩
    wtm_at "rd"
    refine ite2 (fun h => ?_) (fun h => ?_)
    · exact ⟨dx, _, h1, lk_refuse _ _, x, ts, n, a, t, rfl, hL, ht, q2 h⟩
    · have h := Decidable.not_not.mp h
      refine ⟨dx, _, h1, lk_value _ _, x, ts, n, a, t, rfl, hL, ht, ?_⟩
      wtm_at "rd"
      refine ⟨_, dx, _, h1, T.cls_Line, T.no_many, _, lkM _ _, _, rfl, dx, _, h1, by show 3 < 1000; decide, ?_⟩
      rw [cast1, puM]
      exact q1 h _ (Kp.refl _ _).upd (hL.kp (Kp.refl _ _).upd fun dx' L' e => by rw [h1] at e; cases e; exact upd_same)
abbrev sc_Line_term_N : List Str := ["self"]
abbrev sc_Line_term_P : List Str := ["self"]
abbrev sc_Line_term_s : Scope := defScope s_Line_term
theorem sc_Line_term : FnScope sc_Line_term_N sc_Line_term_P sc_Line_term_s := ⟨rfl, rfl, rfl, by decide +kernel, rfl, by decide +kernel, by decide +kernel⟩

theorem ok_term (T : Txt K mg) : Met P w K mg base CX0 2 (CL K) "term" (spTerm (CL K)) := by
  have c_kind : Met P w K mg base CX0 1 (CL K) "kind" (spKind (CL K)) := ok_kind T
  have c_value : Met P w K mg base CX0 1 (CL K) "value" (spValue (CL K)) := ok_value T
  refine met0 T.cls_Line T.m_term T.f_Line_term sc_Line_term (fun _ _ _ _ _ _ us hl => match us, hl with | [_], _ => rfl) (fun vs H Q E h => ?_) (fun cdv A outer s H vs Q E hr h => ?_)
  · obtain ⟨x, ts, n, a, t, rfl, _⟩ := h; rfl
  · obtain ⟨x, ts, n, a, t, rfl, hL, ht, q1, q2⟩ := h
    obtain ⟨dx, L, xs, b, h1, h2, h3, h4⟩ := hL.tok ht
    refine ⟨_, (pss_cons (ps_if (pt_cmpR op_eq (pe_mx0 c_kind hr (by omega) pass0 (pv 0)) pe_str (nomark _)) (pss_one (ps_ret (pe_tup (pa_cons pe_str (pa_cons (pe_mx0 c_value hr (by omega) pass0 (pv 0)) pa_nil))))) pss_nil)
      (pss_cons (ps_if (pt_cmpR op_in_seq (pe_mx0 c_kind hr (by omega) pass0 (pv 0)) (pe_tup (pa_cons pe_str (pa_cons pe_str pa_nil))) rfl) (pss_one (ps_ret (pe_tup (pa_cons pe_str (pa_cons (pe_mx0 c_value hr (by omega) pass0 (pv 0)) pa_nil))))) pss_nil)
      (pss_one (ps_ret pe_non)))), ?_⟩
    wtm_at "rd"
    refine ⟨dx, _, h1, lk_kind _ _, x, ts, n, a, t, rfl, hL, ht, ?_⟩
    wtm_at "rd"
    refine ite2 (fun h => ?_) (fun h => ?_)
    · have e : ∃ u, t = .wd u := by
        cases t <;> simp [kindS] at h
        exact ⟨_, rfl⟩
      obtain ⟨u, rfl⟩ := e
      exact ⟨dx, _, h1, lk_value _ _, x, ts, n, a, .wd u, rfl, hL, ht, fun p hp => q2 _ rfl p _ (same_new hp _) upd_same⟩
    · refine ⟨dx, _, h1, lk_kind _ _, x, ts, n, a, t, rfl, hL, ht, fun p hp => ?_⟩
      wtm_at "rd"
      have sm : Same H (upd H p (.tup [.str (S [105, 110, 116, 101, 103, 101, 114]), .str (S [113, 117, 111, 116, 101, 100])])) := same_new hp _
      refine ⟨_, .inr (SqT.of upd_same), rfl, rfl, ?_⟩
      rw [inV2]
      refine ite2 (fun h2 => ?_) (fun h2 => ?_)
      · have e : termV t = some [.str (S [118, 97, 108, 117, 101]), valV t] := by
          cases t <;> simp [kindS] at h2 ⊢ <;> rfl
        exact ⟨dx, _, sm _ _ h1, lk_value _ _, x, ts, n, a, t, rfl, hL.same sm, ht, fun p2 hp2 => q2 _ e p2 _ (sm.trans (same_new hp2 _)) upd_same⟩
      · refine q1 ?_ _ sm
        cases t <;> simp [kindS] at h h2 ⊢ <;> rfl
abbrev sc_Line_take_term_N : List Str := ["self", "term"]
abbrev sc_Line_take_term_P : List Str := ["self"]
abbrev sc_Line_take_term_s : Scope := defScope s_Line_take_term
theorem sc_Line_take_term : FnScope sc_Line_take_term_N sc_Line_take_term_P sc_Line_take_term_s := ⟨rfl, rfl, rfl, by decide +kernel, rfl, by decide +kernel, by decide +kernel⟩

theorem ok_take_term (T : Txt K mg) (B : BadTxt K mg CB fI) (BP : BadP P) : Met P w K mg base (L2.CX P w) 5 (CL K) "take_term" (spTakeTerm (CL K) CB) := by
  have c_kind : Met P w K mg base CX0 1 (CL K) "kind" (spKind (CL K)) := ok_kind T
  have c_term : Met P w K mg base CX0 2 (CL K) "term" (spTerm (CL K)) := ok_term T
  have c_refuse : Met P w K mg base (L2.CX P w) 3 (CL K) "refuse" (spRefuse (CL K) CB) := ok_refuse T B BP
  have c_take : Met P w K mg base (L2.CX P w) 4 (CL K) "take" (spTake (CL K) CB) := ok_take T B BP
  refine metX T.cls_Line T.m_take_term T.f_Line_take_term sc_Line_take_term (fun _ _ _ _ _ _ us hl => match us, hl with | [_], _ => rfl) (fun vs H Q E h => ?_) (fun cdv A outer s H vs Q E hr h => ?_)
  · obtain ⟨x, ts, n, a, t, rfl, _⟩ := h; rfl
  · obtain ⟨x, ts, n, a, t, rfl, hL, ht, q1, q2⟩ := h
    obtain ⟨dx, L, xs, b, h1, h2, h3, h4⟩ := hL.tok ht
    refine ⟨_, (pss_cons (ps_set (i := 1) sc_Line_take_term.nd rfl (by first | exact Or.inl rfl | exact Or.inr rfl) (pe_mx0 c_term hr (by omega) pass0 (pv 0)))
      (pss_cons (ps_if (pt_cmpR op_isN (pv 1) pe_non (nomark _)) (pss_one (ps_expr (pe_mx0 c_refuse hr (by omega) (passes_call (takes_of rfl rfl rfl rfl) (fun _ _ _ _ h => h)) (pv 0)))) pss_nil)
      (pss_cons (ps_expr (pe_mx c_take hr (by omega) (passes_call (takes_of rfl rfl rfl rfl) (fun _ _ _ _ h => h)) (pv 0) (pa_cons (pe_mx0 c_kind hr (by omega) pass0 (pv 0)) pa_nil)))
      (pss_one (ps_ret (pv 1)))))), ?_⟩
    wtm_at "rd"
    refine ⟨dx, _, h1, lk_term _ _, x, ts, n, a, t, rfl, hL, ht, fun e H' sm => ?_, fun l e p H' sm hp => ?_⟩
    · wtm_at "rd"
      exact ⟨dx, _, sm _ _ h1, lk_refuse _ _, x, ts, n, a, t, rfl, hL.same sm, ht, (q1 e).kp (Kp.same sm)⟩
    · wtm_at "rd"
      refine ⟨dx, _, sm _ _ h1, lk_take _ _, dx, _, sm _ _ h1, lk_kind _ _, x, ts, n, a, t, rfl, hL.same sm, ht, ?_⟩
      wtm_at "rd"
      refine ⟨x, ts, n, a, t, _, rfl, hL.same sm, ht, fun _ H2 k2 hL2 => ?_, fun z => absurd rfl z⟩
      have hpx : p ≠ x := ne_of hp (sm _ _ h1) tup_ins
      exact q2 l e p H2 ((Kp.same sm).trans k2) hL2 (k2 _ _ hpx hp)
abbrev sc_Line_init_N : List Str := ["self", "text", "number"]
abbrev sc_Line_init_P : List Str := ["self", "text", "number"]
abbrev sc_Line_init_s : Scope := defScope s_Line_init
theorem sc_Line_init : FnScope sc_Line_init_N sc_Line_init_P sc_Line_init_s := ⟨rfl, rfl, rfl, by decide +kernel, rfl, by decide +kernel, by decide +kernel⟩

/-- Line(text, 0) -/
def spLineInit (C : Addr) : Sp := fun vs H Q _ => ∃ (x dx : Addr) (l : List Nat), vs = [.ref x, .str (S l), .int 0] ∧ H x = some (.ins C dx []) ∧ l.length ≤ 1000000 ∧ DigOk l ∧ ∀ H', Kp x H H' → LineAt C H' x (toks 0 l) 0 → Q .non H'
theorem ok_line_init (T : Txt K mg) : FnOk P w K mg base CX0 5 (He.ma K (CL K) "__init__") (Classical.choose T.f_Line_init) ["self", "text", "number"] (spLineInit (CL K)) := by
  have c_tokens_of : Cal P w K mg base CX0 4 "tokens_of" spToksOf := ok_tokens_of T
  refine fn_ok0 (Classical.choose_spec T.f_Line_init) sc_Line_init (fun vs H Q E h => ?_) (fun cdv A outer s H vs Q E hr h => ?_)
  · obtain ⟨x, dx, l, rfl, _⟩ := h; rfl
  · obtain ⟨x, dx, l, rfl, hx, hl, hk, q⟩ := h
    refine ⟨_, (pss_cons (ps_fld (pv 0) (pv 2) rfl)
      (pss_cons (ps_fld (pv 0) (pe_c c_tokens_of hr (pa_cons (pv 1) pa_nil)) rfl)
      (pss_one (ps_fld (pv 0) pe_int rfl)))), ?_⟩
    wtm_at "rd"
    refine ⟨_, dx, _, hx, T.cls_Line, T.no_number, by show 0 < 1000; decide, l, rfl, hl, hk, fun p H' xs sm hp hp' ht => ?_⟩
    have hxp : ∀ {o}, upd H x o x = some o := upd_same
    have hpx : p ≠ x := fun e => by rw [e, upd_same] at hp; cases hp
    refine ⟨_, dx, _, sm _ _ upd_same, T.cls_Line, T.no_tokens, by show 1 < 1000; decide, _, dx, _, upd_same, T.cls_Line, T.no_many, by show 2 < 1000; decide, ?_⟩
    have k1 : Kp x H H' := (Kp.upd (Kp.refl x H)).trans (Kp.same sm)
    have hlen := toks_len l.length 0 l (Nat.le_refl _)
    rw [upd_upd]
    refine q _ k1.upd ⟨dx, p, xs, ?_, by rw [upd_ne hpx]; exact hp', Paired.mapP ht fun _ _ ⟨a, e, h⟩ => ⟨a, e, ?_⟩, by omega⟩
    · rw [upd_same, puAll]
    · rw [upd_ne (ne_of h (sm _ _ upd_same) tup_ins)]
      exact h
end
end K26

end
section
set_option linter.all false
/-! K26, part 2: joins, plans; the reader (recursive descent), the law's stop machine, the law's builder. -/
namespace K26
inductive Tm where
  | var (w : List Nat) | int (i : Int) | word (w : List Nat)
  deriving DecidableEq
abbrev Atom := List Nat × List Tm
abbrev Body := List Atom
def tokOf : Tm → Tk
  | .var w => .wd w
  | .int i => .it i
  | .word w => .qd w
inductive Pl where
  | scan (i : Nat) | join (ps : List Pl) | proj (x : List Nat) (p : Pl)
abbrev TT := Nat × Tk

/-- the tokens of an atom behind its name -/
def sepT : List Tm → List Tk
  | [] => []
  | [t] => [tokOf t]
  | t :: r => tokOf t :: .sg 44 :: sepT r
def pend (a : Atom) : List Tk := .sg 40 :: (sepT a.2 ++ [.sg 41])
/-- the first atom of a name -/
def findN : Body → List Nat → Option (Nat × Atom)
  | [], _ => none
  | a :: r, w => if a.1 = w then some (0, a) else (findN r w).map fun p => (p.1 + 1, p.2)

/-- what reading gives: a plan and the tokens behind it, or the tokens from the first that does not fit on -/
inductive Res where
  | ok (p : Pl) (r : List TT)
  | err (r : List TT)
def expectAll : List Tk → List TT → List TT × Bool
  | [], r => (r, true)
  | _ :: _, [] => ([], false)
  | t :: ts, (a, u) :: r => if u = t then expectAll ts r else ((a, u) :: r, false)
def readScan (J : Body) : List TT → Res
  | (a, .wd w) :: r => match findN J w with
    | some (i, at_) => (match expectAll (pend at_) r with
      | (r', true) => .ok (.scan i) r'
      | (r', false) => .err r')
    | none => .err ((a, .wd w) :: r)
  | r => .err r
/-- the rest of [P * P ..: m bounds the number of turns -/
def readMore (rn : List TT → Res) : Nat → List Pl → List TT → Res
  | 0, _, r => .err r
  | m + 1, acc, r => match r with
    | (a, .sg 42) :: r' => (match rn r' with
      | .ok p r'' => readMore rn m (acc ++ [p]) r''
      | .err e => .err e)
    | (a, .sg 93) :: r' => if acc.length < 2 then .err r else .ok (.join acc) r'
    | r => .err r
def readNode (J : Body) : Nat → List TT → Res
  | 0, r => .err r
  | n + 1, r => match r with
    | (_, .sg 33) :: r' => (match r' with
      | (_, .wd w) :: r'' => (match readNode J n r'' with
        | .ok p e => .ok (.proj w p) e
        | .err e => .err e)
      | e => .err e)
    | (_, .sg 91) :: r' => (match readNode J n r' with
      | .ok p e => readMore (readNode J n) (e.length + 1) [p] e
      | .err e => .err e)
    | r => readScan J r

/-- the open signs of tokens -/
def isOpen : Tk → Bool
  | .sg c => decide (c = 33) || decide (c = 91)
  | _ => false
def opens (r : List TT) : Nat := r.countP fun t => isOpen t.2

/-! ### texts of tokens -/
theorem natL_eq (n : Nat) : natL n = TL.numL n := rfl
theorem natL_dig (n : Nat) : ∀ c ∈ natL n, 48 ≤ c ∧ c ≤ 57 := fun c hc => TL.numL_digits n c hc
theorem natL_ne (n : Nat) : natL n ≠ [] := TL.numL_ne n
theorem intL_chars (i : Int) : ∀ c ∈ intL i, c = 45 ∨ (48 ≤ c ∧ c ≤ 57) := by
  unfold intL
  split
  · intro c hc
    rcases List.mem_cons.mp hc with e | hc
    · exact .inl e
    · exact .inr (natL_dig _ c hc)
  · intro c hc
    exact .inr (natL_dig _ c hc)
theorem intL_ne (i : Int) : intL i ≠ [] := by
  unfold intL
  split
  · simp
  · exact natL_ne _
theorem intL_inj {i j : Int} (h : intL i = intL j) : i = j := by
  have key : ∀ (a b : Nat) , natL a ≠ 45 :: natL b := fun a b e => by
    have := natL_dig a 45 (by rw [e]; exact List.mem_cons_self)
    omega
  unfold intL at h
  by_cases hi : i < 0 <;> by_cases hj : j < 0
  · rw [if_pos hi, if_pos hj] at h
    injection h with _ h
    have := TL.numL_inj h
    omega
  · rw [if_pos hi, if_neg hj] at h
    exact absurd h.symm (key _ _)
  · rw [if_neg hi, if_pos hj] at h
    exact absurd h (key _ _)
  · rw [if_neg hi, if_neg hj] at h
    have := TL.numL_inj h
    omega
theorem word_head {w : List Nat} (h : isWord w = true) : ∃ c r, w = c :: r ∧ isL c = true := by
  cases w with
  | nil => simp [isWord] at h
  | cons c r =>
    simp [isWord] at h
    exact ⟨c, r, rfl, h.1⟩
theorem txt_head {t : Tk} (h : Ok t) : ∀ c r, txt t = c :: r → (∃ d, t = .sg d ∧ c = d) ∨ (t = .wd (txt t) ∧ isL c = true) ∨ (c = 34 ∧ ∃ w, t = .qd w) ∨ ((c = 45 ∨ (48 ≤ c ∧ c ≤ 57)) ∧ ∃ i, t = .it i) ∨ (c = 32 ∧ t = .bad) := by
  intro c r e
  cases t with
  | sg d => simp [txt] at e; exact .inl ⟨d, rfl, e.1.symm⟩
  | wd w =>
    obtain ⟨d, q, e1, e2⟩ := word_head (w := w) h
    simp only [txt] at e
    rw [e1] at e
    injection e with e3 e4
    exact .inr (.inl ⟨by simp [txt], by rw [← e3]; exact e2⟩)
  | qd w => simp [txt] at e; exact .inr (.inr (.inl ⟨e.1.symm, w, rfl⟩))
  | it i =>
    simp only [txt] at e
    exact .inr (.inr (.inr (.inl ⟨intL_chars i c (by rw [e]; exact List.mem_cons_self), i, rfl⟩)))
  | bad => simp [txt] at e; exact .inr (.inr (.inr (.inr ⟨e.1.symm, rfl⟩)))
  | fin => simp [txt] at e
theorem sg_not {c : Nat} (h : isS c = true) : ¬ isL c = true ∧ c ≠ 34 ∧ c ≠ 45 ∧ ¬ (48 ≤ c ∧ c ≤ 57) ∧ c ≠ 32 := by
  rw [isS_iff] at h
  rw [isL_iff]
  omega
theorem txt_sg {t : Tk} (h : Ok t) {c : Nat} (hc : isS c = true) : txt t = [c] ↔ t = .sg c := by
  constructor
  · intro e
    have n := sg_not hc
    rcases txt_head h _ _ e with ⟨d, h1, h2⟩ | ⟨_, h1⟩ | ⟨h1, _⟩ | ⟨h1, _⟩ | ⟨h1, _⟩
    · rw [h1, h2]
    · exact absurd h1 n.1
    · exact absurd h1 n.2.1
    · rcases h1 with h1 | h1
      · exact absurd h1 n.2.2.1
      · exact absurd h1 n.2.2.2.1
    · exact absurd h1 n.2.2.2.2
  · intro e; rw [e]; rfl
theorem txt_wd {t : Tk} (h : Ok t) {w : List Nat} (hw : isWord w = true) : txt t = w ↔ t = .wd w := by
  constructor
  · intro e
    obtain ⟨c, r, e1, e2⟩ := word_head hw
    rcases txt_head h c r (by rw [e, e1]) with ⟨d, h1, h2⟩ | ⟨h1, _⟩ | ⟨h1, _⟩ | ⟨h1, _⟩ | ⟨h1, _⟩
    · subst h1 h2
      exact absurd e2 (sg_not h).1
    · rw [h1, e]
    · rw [isL_iff] at e2; omega
    · rw [isL_iff] at e2; omega
    · rw [isL_iff] at e2; omega
  · intro e; rw [e]; rfl
theorem txt_isWord {t : Tk} (h : Ok t) : isWord (txt t) = true ↔ ∃ w, t = .wd w := by
  constructor
  · intro e; exact ⟨txt t, (txt_wd h e).mp rfl⟩
  · rintro ⟨w, rfl⟩; exact h
theorem txt_qd {t : Tk} (h : Ok t) {w : List Nat} : txt t = 34 :: (w ++ [34]) ↔ t = .qd w := by
  constructor
  · intro e
    rcases txt_head h _ _ e with ⟨d, h1, h2⟩ | ⟨_, h1⟩ | ⟨_, w', h1⟩ | ⟨h1, _⟩ | ⟨h1, _⟩
    · subst h1 h2; exact absurd rfl (sg_not h).2.1
    · simp [isL] at h1
    · subst h1
      simp [txt] at e
      rw [e]
    · omega
    · omega
  · intro e; rw [e]; rfl
theorem txt_it {t : Tk} (h : Ok t) {i : Int} : txt t = intL i ↔ t = .it i := by
  constructor
  · intro e
    cases hi : intL i with
    | nil => exact absurd hi (intL_ne i)
    | cons c r =>
      have hc := intL_chars i c (by rw [hi]; exact List.mem_cons_self)
      rcases txt_head h c r (by rw [e, hi]) with ⟨d, h1, h2⟩ | ⟨_, h1⟩ | ⟨h1, _⟩ | ⟨_, j, h1⟩ | ⟨h1, _⟩
      · subst h1 h2
        have := sg_not h
        omega
      · rw [isL_iff] at h1; omega
      · omega
      · subst h1
        exact congrArg Tk.it (intL_inj e)
      · omega
  · intro e; rw [e]; rfl
/-- the tokens that an atom's texts stand for -/
def OkTm : Tm → Prop
  | .var w => isWord w = true
  | .int _ => True
  | .word w => isWord w = true
def OkP : Tk → Prop
  | .sg c => isS c = true
  | .wd w => isWord w = true
  | .qd w => isWord w = true
  | .it _ => True
  | _ => False
theorem txt_inj {t u : Tk} (h : Ok t) (hu : OkP u) : txt t = txt u ↔ t = u := by
  cases u with
  | sg c => exact txt_sg h hu
  | wd w => exact txt_wd h hu
  | qd w => exact txt_qd h
  | it i => exact txt_it h
  | bad => exact hu.elim
  | fin => exact hu.elim
theorem txt_nil {t : Tk} (h : Ok t) : txt t = [] ↔ t = .fin := by
  constructor
  · intro e
    cases t with
    | sg d => simp [txt] at e
    | wd w =>
      obtain ⟨d, q, e1, e2⟩ := word_head (w := w) h
      simp only [txt] at e
      rw [e1] at e; cases e
    | qd w => simp [txt] at e
    | it i => exact absurd e (intL_ne i)
    | bad => simp [txt] at e
    | fin => rfl
  · intro e; rw [e]; rfl
theorem okP_pend {a : Atom} (h : ∀ t ∈ a.2, OkTm t) : ∀ u ∈ pend a, OkP u := by
  have hs : ∀ l : List Tm, (∀ t ∈ l, OkTm t) → ∀ u ∈ sepT l, OkP u := by
    intro l
    have one : ∀ t, OkTm t → OkP (tokOf t) := fun t ht => by cases t <;> exact ht
    induction l with
    | nil => intro _ u hu; cases hu
    | cons t r ih =>
      intro hl u hu
      cases r with
      | nil =>
        have e : u = tokOf t := by simpa [sepT] using hu
        rw [e]; exact one t (hl t List.mem_cons_self)
      | cons t2 r2 =>
        have e : u = tokOf t ∨ u = .sg 44 ∨ u ∈ sepT (t2 :: r2) := by simpa [sepT] using hu
        rcases e with e | e | e
        · rw [e]; exact one t (hl t List.mem_cons_self)
        · rw [e]; show isS 44 = true; decide
        · exact ih (fun x hx => hl x (List.mem_cons_of_mem _ hx)) u e
  intro u hu
  unfold pend at hu
  rcases List.mem_cons.mp hu with e | hu
  · rw [e]; show isS 40 = true; decide
  · rcases List.mem_append.mp hu with hu | hu
    · exact hs a.2 h u hu
    · rw [List.mem_singleton.mp hu]; show isS 41 = true; decide
end K26

end
section
set_option linter.all false
/-! K26, part 3: the law's stop machine and builder agree with the reader. -/
namespace K26
structure MS where
  counts : List Nat
  pend : List (List Nat)
  begins : Bool
  last : List Nat
def bump : List Nat → List Nat
  | [] => []
  | c :: r => (c + 1) :: r
def topBig : List Nat → Bool
  | c :: _ => decide (1 < c)
  | [] => false
/-- one token of the stop machine -/
def mstep (J : Body) (s : MS) (t : List Nat) : Option MS :=
  match s.pend with
  | q :: p => if t = q then (if p = [] then some ⟨bump s.counts, [], false, t⟩ else some ⟨s.counts, p, s.begins, t⟩) else none
  | [] =>
    if s.last = [33] then (if isWord t = true then some ⟨s.counts, [], s.begins, t⟩ else none)
    else if s.begins = true ∧ t = [91] then some ⟨0 :: s.counts, [], true, t⟩
    else if s.begins = true then
      (match findN J t with
      | some (_, a) => some ⟨s.counts, (pend a).map txt, true, t⟩
      | none => if t = [33] then some ⟨s.counts, [], true, t⟩ else none)
    else if t = [42] ∧ s.counts ≠ [] then some ⟨s.counts, [], true, t⟩
    else if t = [93] ∧ topBig s.counts = true then some ⟨bump s.counts.tail, [], false, t⟩
    else if t ≠ [] ∨ s.counts ≠ [] then none else some ⟨s.counts, [], false, t⟩
/-- from where on the tokens don't fit -/
def mfail (J : Body) (s : MS) : List TT → Option (List TT)
  | [] => none
  | (a, t) :: r => match mstep J s (txt t) with
    | none => some ((a, t) :: r)
    | some s' => mfail J s' r
inductive Fr where
  | br (ps : List Pl) | bang (x : List Nat)
def attach : Pl → List Fr → List Fr
  | _, [] => []
  | p, .bang x :: s => attach (.proj x p) s
  | p, .br ps :: s => .br (ps ++ [p]) :: s
/-- there is a "[" to attach to -/
def good : List Fr → Prop
  | [] => False
  | .br _ :: _ => True
  | .bang _ :: s => good s
def att (p : Pl) (st : List Fr) : Option (List Fr) := match attach p st with
  | [] => none
  | f :: s => some (f :: s)
theorem attach_good : ∀ {st : List Fr} (p : Pl), good st → ∃ ps s, attach p st = .br ps :: s
  | .br ps :: s, p, _ => ⟨_, _, rfl⟩
  | .bang x :: s, p, h => attach_good (st := s) (.proj x p) h
theorem good_attach {st : List Fr} (p : Pl) (h : good st) : good (attach p st) := by
  obtain ⟨ps, s, e⟩ := attach_good p h
  rw [e]; trivial
theorem att_good {st : List Fr} (p : Pl) (h : good st) : att p st = some (attach p st) := by
  obtain ⟨ps, s, e⟩ := attach_good p h
  unfold att
  rw [e]
theorem att_some : ∀ {st st' : List Fr} {p : Pl}, att p st = some st' → good st ∧ st' = attach p st
  | [], _, _, h => by cases h
  | .br ps :: s, _, _, h => by cases h; exact ⟨trivial, rfl⟩
  | .bang x :: s, st', p, h => att_some (st := s) (p := .proj x p) h
/-- one token of the builder -/
def bstep (J : Body) (prev t nxt : List Nat) (st : List Fr × Nat) : Option (List Fr × Nat) :=
  if t = [33] then some (.bang nxt :: st.1, st.2)
  else if t = [91] then some (.br [] :: st.1, st.2)
  else if t = [40] then (findN J prev).map fun q => (st.1, q.1)
  else if t = [41] then (att (.scan st.2) st.1).map fun s => (s, st.2)
  else if t = [93] then (match st.1 with
    | .br ps :: s' => (att (.join ps) s').map fun s => (s, st.2)
    | _ => none)
  else some st
def brun (J : Body) (prev : List Nat) (st : List Fr × Nat) : List (List Nat) → Option (List Fr × Nat)
  | [] => some st
  | t :: r => match bstep J prev t (r.headD []) st with
    | none => none
    | some st' => brun J t st' r
abbrev texts (r : List TT) : List (List Nat) := r.map fun p => txt p.2
/-- joins as the law makes them -/
structure OkJ (J : Body) : Prop where
  names : ∀ a ∈ J, isWord a.1 = true
  terms : ∀ a ∈ J, ∀ t ∈ a.2, OkTm t
theorem findN_mem {J : Body} {w : List Nat} {i : Nat} {a : Atom} : findN J w = some (i, a) → a ∈ J ∧ a.1 = w ∧ J[i]? = some a := by
  induction J generalizing i with
  | nil => intro h; cases h
  | cons b r ih =>
    intro h
    unfold findN at h
    split at h
    · rename_i e
      cases h
      exact ⟨List.mem_cons_self, e, rfl⟩
    · cases hf : findN r w with
      | none => rw [hf] at h; cases h
      | some q =>
        rw [hf] at h
        obtain ⟨j, c⟩ := q
        cases h
        obtain ⟨h1, h2, h3⟩ := ih hf
        exact ⟨List.mem_cons_of_mem _ h1, h2, by simpa using h3⟩
theorem findN_none {J : Body} (hJ : OkJ J) {w : List Nat} (h : ¬ isWord w = true) : findN J w = none := by
  cases hf : findN J w with
  | none => rfl
  | some q =>
    obtain ⟨i, a⟩ := q
    obtain ⟨h1, h2, _⟩ := findN_mem hf
    exact absurd (h2 ▸ hJ.names a h1) h
theorem Wf.ok {a : Nat} {t : Tk} {r : List TT} (h : Wf ((a, t) :: r)) : Ok t := by
  cases h with
  | fin => trivial
  | bad => trivial
  | cons h1 _ _ _ => exact h1
theorem Wf.tail {a : Nat} {t : Tk} {r : List TT} (h : Wf ((a, t) :: r)) (h1 : t ≠ .fin) (h2 : t ≠ .bad) : Wf r := by
  cases h with
  | fin => exact absurd rfl h1
  | bad => exact absurd rfl h2
  | cons _ _ _ h => exact h
theorem Wf.ne {r : List TT} (h : Wf r) : ∃ a t r', r = (a, t) :: r' := by
  cases h with
  | fin => exact ⟨_, _, _, rfl⟩
  | bad => exact ⟨_, _, _, rfl⟩
  | cons => exact ⟨_, _, _, rfl⟩
theorem okP_ne {t : Tk} (h : OkP t) : t ≠ .fin ∧ t ≠ .bad := by
  constructor <;> (intro e; subst e; exact h)
theorem mfail_some {J : Body} {s s' : MS} {a : Nat} {t : Tk} {r : List TT} (h : mstep J s (txt t) = some s') : mfail J s ((a, t) :: r) = mfail J s' r := by
  rw [mfail, h]
theorem mfail_none {J : Body} {s : MS} {a : Nat} {t : Tk} {r : List TT} (h : mstep J s (txt t) = none) : mfail J s ((a, t) :: r) = some ((a, t) :: r) := by
  rw [mfail, h]
theorem brun_cons {J : Body} {prev t : List Nat} {st st' : List Fr × Nat} {r : List (List Nat)} (h : bstep J prev t (r.headD []) st = some st') : brun J prev st (t :: r) = brun J t st' r := by
  rw [brun, h]
/-- the last token matters only when it is "!" -/
theorem mfail_last {J : Body} {cs : List Nat} {b : Bool} {l l' : List Nat} (h : l ≠ [33]) (h' : l' ≠ [33]) (r : List TT) : mfail J ⟨cs, [], b, l⟩ r = mfail J ⟨cs, [], b, l'⟩ r := by
  cases r with
  | nil => rfl
  | cons p r =>
    obtain ⟨a, t⟩ := p
    unfold mfail
    have : mstep J ⟨cs, [], b, l⟩ (txt t) = mstep J ⟨cs, [], b, l'⟩ (txt t) := by
      unfold mstep
      simp only [h, h', if_false]
    rw [this]
/-- a token that is none of the builder's signs -/
theorem bstep_id {J : Body} {prev nxt : List Nat} {st : List Fr × Nat} {u : Tk} (h : OkP u) (hn : u ≠ .sg 33 ∧ u ≠ .sg 91 ∧ u ≠ .sg 40 ∧ u ≠ .sg 41 ∧ u ≠ .sg 93) : bstep J prev (txt u) nxt st = some st := by
  have ok : Ok u := by cases u <;> first | exact h | trivial
  unfold bstep
  rw [if_neg (fun e => hn.1 ((txt_sg ok (by decide)).mp e)), if_neg (fun e => hn.2.1 ((txt_sg ok (by decide)).mp e)), if_neg (fun e => hn.2.2.1 ((txt_sg ok (by decide)).mp e)), if_neg (fun e => hn.2.2.2.1 ((txt_sg ok (by decide)).mp e)), if_neg (fun e => hn.2.2.2.2 ((txt_sg ok (by decide)).mp e))]
/-- what reading a part tells of the machine (from the state in which a part begins) and of the builder -/
def Spec (J : Body) (r : List TT) (out : Res) : Prop := match out with
  | .ok p r' => Wf r' ∧ r'.length < r.length ∧ r' <:+ r ∧ (∀ cs, mfail J ⟨cs, [], true, []⟩ r = mfail J ⟨bump cs, [], false, []⟩ r') ∧
      ∀ prev st i, good st → ∃ prev' i', brun J prev (st, i) (texts r) = brun J prev' (attach p st, i') (texts r')
  | .err r' => Wf r' ∧ r' <:+ r ∧ ∀ cs, mfail J ⟨cs, [], true, []⟩ r = some r'
theorem opens_suf {r r' : List TT} (h : r' <:+ r) : opens r' ≤ opens r := List.Sublist.countP_le h.sublist
theorem okP41 : OkP (Tk.sg 41) := by show isS 41 = true; decide
/-- the tokens of an atom behind the name -/
theorem expect_spec {J : Body} : ∀ (qs : List Tk) (r : List TT), (∀ u ∈ qs, OkP u ∧ u ≠ .sg 33 ∧ u ≠ .sg 91 ∧ u ≠ .sg 40 ∧ u ≠ .sg 41 ∧ u ≠ .sg 93) → Wf r →
    match expectAll (qs ++ [Tk.sg 41]) r with
    | (r', true) => Wf r' ∧ r'.length < r.length ∧ r' <:+ r ∧ (∀ cs l, mfail J ⟨cs, (qs ++ [Tk.sg 41]).map txt, true, l⟩ r = mfail J ⟨bump cs, [], false, []⟩ r') ∧
        ∀ prev st i, good st → ∃ prev', brun J prev (st, i) (texts r) = brun J prev' (attach (.scan i) st, i) (texts r')
    | (r', false) => Wf r' ∧ r' <:+ r ∧ ∀ cs l, mfail J ⟨cs, (qs ++ [Tk.sg 41]).map txt, true, l⟩ r = some r'
  | [], r, _, hr => by
    obtain ⟨a, t, r', rfl⟩ := hr.ne
    have hok := hr.ok
    by_cases h : t = Tk.sg 41
    · subst h
      have e : expectAll ([] ++ [Tk.sg 41]) ((a, Tk.sg 41) :: r') = (r', true) := by
        show (if Tk.sg 41 = Tk.sg 41 then (r', true) else _) = _
        rw [if_pos rfl]
      rw [e]
      refine ⟨hr.tail (by decide) (by decide), by simp, List.suffix_cons _ _, fun cs l => ?_, fun prev st i hg => ⟨[41], ?_⟩⟩
      · rw [mfail_some (s' := ⟨bump cs, [], false, [41]⟩)]
        · exact mfail_last (by decide) (by decide) r'
        · rfl
      · show brun J prev (st, i) ([41] :: texts r') = _
        refine brun_cons ?_
        show (att (.scan i) st).map _ = _
        rw [att_good _ hg]
        rfl
    · have e : expectAll ([] ++ [Tk.sg 41]) ((a, t) :: r') = ((a, t) :: r', false) := by
        show (if t = Tk.sg 41 then (r', true) else _) = _
        rw [if_neg h]
      rw [e]
      refine ⟨hr, List.suffix_refl _, fun cs l => mfail_none ?_⟩
      show (if txt t = txt (Tk.sg 41) then _ else none) = none
      rw [if_neg (fun e => h ((txt_inj hok okP41).mp e))]
  | q :: qs, r, hq, hr => by
    obtain ⟨a, t, r', rfl⟩ := hr.ne
    have hok := hr.ok
    obtain ⟨hqo, hqn⟩ := hq q List.mem_cons_self
    by_cases h : t = q
    · subst h
      have ht := hr.tail (okP_ne hqo).1 (okP_ne hqo).2
      have ih := expect_spec (J := J) qs r' (fun u hu => hq u (List.mem_cons_of_mem _ hu)) ht
      have e : expectAll ((t :: qs) ++ [Tk.sg 41]) ((a, t) :: r') = expectAll (qs ++ [Tk.sg 41]) r' := by
        show (if t = t then expectAll (qs ++ [Tk.sg 41]) r' else _) = _
        rw [if_pos rfl]
      rw [e]
      have hm : ∀ cs l, mfail J ⟨cs, ((t :: qs) ++ [Tk.sg 41]).map txt, true, l⟩ ((a, t) :: r') = mfail J ⟨cs, (qs ++ [Tk.sg 41]).map txt, true, txt t⟩ r' := fun cs l => by
        refine mfail_some ?_
        show (if txt t = txt t then (if (qs ++ [Tk.sg 41]).map txt = [] then _ else _) else none) = _
        rw [if_pos rfl, if_neg (by simp)]
        rfl
      cases hx : expectAll (qs ++ [Tk.sg 41]) r' with
      | mk r2 b =>
        rw [hx] at ih
        cases b with
        | true =>
          obtain ⟨i1, i2, i3, i4, i5⟩ := ih
          refine ⟨i1, by simp; omega, i3.trans (List.suffix_cons _ _), fun cs l => by rw [hm, i4], fun prev st i hg => ?_⟩
          obtain ⟨p', hp⟩ := i5 (txt t) st i hg
          refine ⟨p', ?_⟩
          show brun J prev (st, i) (txt t :: texts r') = _
          rw [brun_cons (bstep_id hqo hqn)]
          exact hp
        | false =>
          obtain ⟨i1, i2, i3⟩ := ih
          exact ⟨i1, i2.trans (List.suffix_cons _ _), fun cs l => by rw [hm, i3]⟩
    · have e : expectAll ((q :: qs) ++ [Tk.sg 41]) ((a, t) :: r') = ((a, t) :: r', false) := by
        show (if t = q then _ else _) = _
        rw [if_neg h]
      rw [e]
      refine ⟨hr, List.suffix_refl _, fun cs l => mfail_none ?_⟩
      show (if txt t = txt q then _ else none) = none
      rw [if_neg (fun e => h ((txt_inj hok hqo).mp e))]
theorem sep_ok {l : List Tm} (h : ∀ t ∈ l, OkTm t) : ∀ u ∈ Tk.sg 40 :: sepT l, OkP u := fun u hu => okP_pend (a := ([], l)) h u (by
  unfold pend
  rcases List.mem_cons.mp hu with e | hu
  · rw [e]; exact List.mem_cons_self
  · exact List.mem_cons_of_mem _ (List.mem_append_left _ hu))
theorem sep_no {l : List Tm} : ∀ u ∈ sepT l, u ≠ .sg 33 ∧ u ≠ .sg 91 ∧ u ≠ .sg 40 ∧ u ≠ .sg 41 ∧ u ≠ .sg 93 := by
  have one : ∀ t : Tm, tokOf t ≠ .sg 33 ∧ tokOf t ≠ .sg 91 ∧ tokOf t ≠ .sg 40 ∧ tokOf t ≠ .sg 41 ∧ tokOf t ≠ .sg 93 := fun t => by cases t <;> simp [tokOf]
  induction l with
  | nil => intro u hu; cases hu
  | cons t r ih =>
    intro u hu
    cases r with
    | nil =>
      have e : u = tokOf t := by simpa [sepT] using hu
      rw [e]; exact one t
    | cons t2 r2 =>
      have e : u = tokOf t ∨ u = .sg 44 ∨ u ∈ sepT (t2 :: r2) := by simpa [sepT] using hu
      rcases e with e | e | e
      · rw [e]; exact one t
      · rw [e]; decide
      · exact ih u e
theorem scan_spec {J : Body} (hJ : OkJ J) {r : List TT} (hr : Wf r) (hb : ∀ a r', r ≠ (a, Tk.sg 33) :: r' ∧ r ≠ (a, Tk.sg 91) :: r') : Spec J r (readScan J r) := by
  obtain ⟨a, t, r', rfl⟩ := hr.ne
  have hok := hr.ok
  have n33 : t ≠ .sg 33 := fun e => (hb a r').1 (by rw [e])
  have n91 : t ≠ .sg 91 := fun e => (hb a r').2 (by rw [e])
  have t33 : ¬ txt t = [33] := fun e => n33 ((txt_sg hok (by decide)).mp e)
  have t91 : ¬ txt t = [91] := fun e => n91 ((txt_sg hok (by decide)).mp e)
  have step : ∀ cs, mstep J ⟨cs, [], true, []⟩ (txt t) = (match findN J (txt t) with
      | some (_, at_) => some ⟨cs, (pend at_).map txt, true, txt t⟩
      | none => none) := fun cs => by
    unfold mstep
    simp only
    rw [if_neg (by decide), if_neg (fun z => t91 z.2)]
    cases findN J (txt t) with
    | none => simp only [if_true]; rw [if_neg t33]
    | some q => rfl
  have bad : readScan J ((a, t) :: r') = .err ((a, t) :: r') → (∀ cs, mstep J ⟨cs, [], true, []⟩ (txt t) = none) → Spec J ((a, t) :: r') (readScan J ((a, t) :: r')) := fun e h => by
    rw [e]
    exact ⟨hr, List.suffix_refl _, fun cs => mfail_none (h cs)⟩
  by_cases hw : ∃ w, t = .wd w
  · obtain ⟨w, rfl⟩ := hw
    cases hf : findN J w with
    | none =>
      refine bad (by simp only [readScan, hf]) fun cs => ?_
      rw [step]
      simp only [txt, hf]
    | some q =>
      obtain ⟨i, at_⟩ := q
      obtain ⟨h1, h2, h3⟩ := findN_mem hf
      have hm : ∀ cs, mfail J ⟨cs, [], true, []⟩ ((a, .wd w) :: r') = mfail J ⟨cs, (pend at_).map txt, true, w⟩ r' := fun cs => by
        refine mfail_some ?_
        rw [step]
        simp only [txt, hf]
      have ht := hr.tail nofun nofun
      obtain ⟨a2, t2, r2, rfl⟩ := ht.ne
      have ht2 := ht.ok
      by_cases hp : t2 = .sg 40
      · subst hp
        have hx := expect_spec (J := J) (sepT at_.2) r2 (fun u hu => ⟨sep_ok (hJ.terms at_ h1) u (List.mem_cons_of_mem _ hu), sep_no u hu⟩) (ht.tail nofun nofun)
        have e : expectAll (pend at_) ((a2, Tk.sg 40) :: r2) = expectAll (sepT at_.2 ++ [Tk.sg 41]) r2 := by
          show (if Tk.sg 40 = Tk.sg 40 then _ else _) = _
          rw [if_pos rfl]
        have hm2 : ∀ cs, mfail J ⟨cs, [], true, []⟩ ((a, .wd w) :: (a2, Tk.sg 40) :: r2) = mfail J ⟨cs, (sepT at_.2 ++ [Tk.sg 41]).map txt, true, [40]⟩ r2 := fun cs => by
          rw [hm]
          refine mfail_some ?_
          show (if txt (Tk.sg 40) = txt (Tk.sg 40) then (if (sepT at_.2 ++ [Tk.sg 41]).map txt = [] then _ else _) else none) = _
          rw [if_pos rfl, if_neg (by simp)]
          rfl
        cases hy : expectAll (sepT at_.2 ++ [Tk.sg 41]) r2 with
        | mk r3 b =>
          rw [hy] at hx
          have er : readScan J ((a, .wd w) :: (a2, Tk.sg 40) :: r2) = (match ((r3, b) : List TT × Bool) with | (r', true) => .ok (.scan i) r' | (r', false) => .err r') := by
            simp only [readScan, hf]
            rw [e, hy] <;> cases b <;> rfl
          rw [er]
          cases b with
          | true =>
            obtain ⟨i1, i2, i3, i4, i5⟩ := hx
            refine ⟨i1, by simp; omega, i3.trans ((List.suffix_cons _ _).trans (List.suffix_cons _ _)), fun cs => by rw [hm2, i4], fun prev st k hg => ?_⟩
            obtain ⟨p', hp'⟩ := i5 [40] st i hg
            refine ⟨p', i, ?_⟩
            show brun J prev (st, k) (txt (.wd w) :: [40] :: texts r2) = _
            rw [brun_cons (bstep_id (show OkP (.wd w) from hok) ⟨nofun, nofun, nofun, nofun, nofun⟩), brun_cons (st' := (st, i))]
            · exact hp'
            · show (findN J w).map _ = _
              rw [hf]
              rfl
          | false =>
            obtain ⟨i1, i2, i3⟩ := hx
            exact ⟨i1, i2.trans ((List.suffix_cons _ _).trans (List.suffix_cons _ _)), fun cs => by rw [hm2, i3]⟩
      · have e : expectAll (pend at_) ((a2, t2) :: r2) = ((a2, t2) :: r2, false) := by
          show (if t2 = Tk.sg 40 then _ else _) = _
          rw [if_neg hp]
        have er : readScan J ((a, .wd w) :: (a2, t2) :: r2) = .err ((a2, t2) :: r2) := by
          simp only [readScan, hf]
          rw [e]
        rw [er]
        refine ⟨ht, List.suffix_cons _ _, fun cs => ?_⟩
        rw [hm]
        refine mfail_none ?_
        show (if txt t2 = txt (Tk.sg 40) then _ else none) = none
        rw [if_neg (fun z => hp ((txt_inj ht2 (show OkP (Tk.sg 40) by show isS 40 = true; decide)).mp z))]
  · refine bad ?_ fun cs => ?_
    · cases t <;> first | rfl | exact absurd ⟨_, rfl⟩ hw
    · rw [step, findN_none hJ (fun z => hw ((txt_isWord hok).mp z))]
theorem more_spec {J : Body} {n : Nat} (hn : ∀ r, Wf r → opens r < n → Spec J r (readNode J n r)) : ∀ (m : Nat) (acc : List Pl) (r : List TT), acc ≠ [] → Wf r → opens r < n → r.length < m →
    match readMore (readNode J n) m acc r with
    | .ok p r' => Wf r' ∧ r'.length < r.length ∧ r' <:+ r ∧ (∀ cs, mfail J ⟨acc.length :: cs, [], false, []⟩ r = mfail J ⟨bump cs, [], false, []⟩ r') ∧
        ∀ prev st i, good st → ∃ prev' i', brun J prev (.br acc :: st, i) (texts r) = brun J prev' (attach p st, i') (texts r')
    | .err r' => Wf r' ∧ r' <:+ r ∧ ∀ cs, mfail J ⟨acc.length :: cs, [], false, []⟩ r = some r'
  | 0, acc, r, _, _, _, hl => by omega
  | m + 1, acc, r, ha, hr, ho, hl => by
    obtain ⟨a, t, r', rfl⟩ := hr.ne
    have hok := hr.ok
    have hsuf : r' <:+ (a, t) :: r' := List.suffix_cons _ _
    have step : ∀ cs, mstep J ⟨acc.length :: cs, [], false, []⟩ (txt t) = if txt t = [42] then some ⟨acc.length :: cs, [], true, txt t⟩ else if txt t = [93] ∧ 1 < acc.length then some ⟨bump cs, [], false, txt t⟩ else none := fun cs => by
      unfold mstep
      simp [topBig]
    by_cases h42 : t = .sg 42
    · subst h42
      have ht := hr.tail nofun nofun
      have h1 := hn r' ht (Nat.lt_of_le_of_lt (opens_suf hsuf) ho)
      have hm : ∀ cs, mfail J ⟨acc.length :: cs, [], false, []⟩ ((a, .sg 42) :: r') = mfail J ⟨acc.length :: cs, [], true, []⟩ r' := fun cs => by
        rw [mfail_some (s' := ⟨acc.length :: cs, [], true, [42]⟩)]
        · exact mfail_last (by decide) (by decide) r'
        · rw [step]; rfl
      have hb : ∀ prev st i, brun J prev (.br acc :: st, i) (texts ((a, .sg 42) :: r')) = brun J [42] (.br acc :: st, i) (texts r') := fun prev st i => rfl
      have er : readMore (readNode J n) (m + 1) acc ((a, .sg 42) :: r') = (match readNode J n r' with
        | .ok p r'' => readMore (readNode J n) m (acc ++ [p]) r''
        | .err e => .err e) := rfl
      rw [er]
      cases hx : readNode J n r' with
      | err e =>
        rw [hx] at h1
        exact ⟨h1.1, h1.2.1.trans hsuf, fun cs => by rw [hm, h1.2.2]⟩
      | ok p r2 =>
        rw [hx] at h1
        obtain ⟨i1, i2, i3, i4, i5⟩ := h1
        have ih := more_spec hn m (acc ++ [p]) r2 (by simp) i1 (Nat.lt_of_le_of_lt (opens_suf (i3.trans hsuf)) ho) (by simp at hl; omega)
        have hlen : (acc ++ [p]).length = acc.length + 1 := by simp
        simp only
        cases hy : readMore (readNode J n) m (acc ++ [p]) r2 with
        | err e =>
          rw [hy] at ih
          obtain ⟨j1, j2, j3⟩ := ih
          refine ⟨j1, j2.trans (i3.trans hsuf), fun cs => ?_⟩
          rw [hm, i4]
          show mfail J ⟨(acc.length + 1) :: cs, [], false, []⟩ r2 = _
          rw [← hlen, j3]
        | ok q r3 =>
          rw [hy] at ih
          obtain ⟨j1, j2, j3, j4, j5⟩ := ih
          refine ⟨j1, by simp; omega, j3.trans (i3.trans hsuf), fun cs => ?_, fun prev st i hg => ?_⟩
          · rw [hm, i4]
            show mfail J ⟨(acc.length + 1) :: cs, [], false, []⟩ r2 = _
            rw [← hlen, j4]
          · obtain ⟨p1, k1, e1⟩ := i5 [42] (.br acc :: st) i trivial
            obtain ⟨p2, k2, e2⟩ := j5 p1 st k1 hg
            exact ⟨p2, k2, by rw [hb, e1]; exact e2⟩
    · have t42 : ¬ txt t = [42] := fun e => h42 ((txt_sg hok (by decide)).mp e)
      by_cases h93 : t = .sg 93
      · subst h93
        by_cases hlt : acc.length < 2
        · have er : readMore (readNode J n) (m + 1) acc ((a, .sg 93) :: r') = .err ((a, .sg 93) :: r') := by
            show (if acc.length < 2 then _ else _) = _
            rw [if_pos hlt]
          rw [er]
          refine ⟨hr, List.suffix_refl _, fun cs => mfail_none ?_⟩
          rw [step, if_neg t42, if_neg (fun z => by omega)]
        · have er : readMore (readNode J n) (m + 1) acc ((a, .sg 93) :: r') = .ok (.join acc) r' := by
            show (if acc.length < 2 then _ else _) = _
            rw [if_neg hlt]
          rw [er]
          refine ⟨hr.tail nofun nofun, by simp, hsuf, fun cs => ?_, fun prev st i hg => ⟨[93], i, brun_cons (st' := (attach (.join acc) st, i)) (by show (att (.join acc) st).map _ = _; rw [att_good _ hg]; rfl)⟩⟩
          rw [mfail_some (s' := ⟨bump cs, [], false, [93]⟩)]
          · exact mfail_last (by decide) (by decide) r'
          · rw [step, if_neg t42, if_pos ⟨rfl, by omega⟩]; rfl
      · have er : readMore (readNode J n) (m + 1) acc ((a, t) :: r') = .err ((a, t) :: r') := by
          unfold readMore
          split
          · rename_i h; cases h; exact absurd rfl h42
          · rename_i h; cases h; exact absurd rfl h93
          · rfl
        rw [er]
        refine ⟨hr, List.suffix_refl _, fun cs => mfail_none ?_⟩
        rw [step, if_neg t42, if_neg (fun z => h93 ((txt_sg hok (by decide)).mp z.1))]
theorem node_spec {J : Body} (hJ : OkJ J) : ∀ (n : Nat) (r : List TT), Wf r → opens r < n → Spec J r (readNode J n r)
  | 0, r, _, h => by omega
  | n + 1, r, hr, ho => by
    obtain ⟨a, t, r', rfl⟩ := hr.ne
    have hok := hr.ok
    have hsuf : r' <:+ (a, t) :: r' := List.suffix_cons _ _
    by_cases h33 : t = .sg 33
    · subst h33
      have ho' : opens r' < n := by
        have : opens ((a, Tk.sg 33) :: r') = opens r' + 1 := by simp [opens, isOpen]
        omega
      have ht := hr.tail nofun nofun
      obtain ⟨a2, t2, r2, rfl⟩ := ht.ne
      have ht2 := ht.ok
      have hsuf2 : r2 <:+ (a2, t2) :: r2 := List.suffix_cons _ _
      have hm : ∀ cs, mfail J ⟨cs, [], true, []⟩ ((a, .sg 33) :: (a2, t2) :: r2) = mfail J ⟨cs, [], true, [33]⟩ ((a2, t2) :: r2) := fun cs => by
        refine mfail_some ?_
        show mstep J ⟨cs, [], true, []⟩ [33] = _
        unfold mstep
        simp only
        rw [if_neg (by decide), if_neg (by simp), findN_none hJ (by decide)]
        rfl
      have step : ∀ cs, mstep J ⟨cs, [], true, [33]⟩ (txt t2) = if isWord (txt t2) = true then some ⟨cs, [], true, txt t2⟩ else none := fun cs => by
        unfold mstep
        simp only [if_true]
      by_cases hw : ∃ w, t2 = .wd w
      · obtain ⟨w, rfl⟩ := hw
        have hwd : isWord w = true := ht2
        have er : readNode J (n + 1) ((a, .sg 33) :: (a2, .wd w) :: r2) = (match readNode J n r2 with
          | .ok p e => .ok (.proj w p) e
          | .err e => .err e) := rfl
        have h2 := ht.tail nofun nofun
        have h1 := node_spec hJ n r2 h2 (Nat.lt_of_le_of_lt (opens_suf hsuf2) ho')
        have hm2 : ∀ cs, mfail J ⟨cs, [], true, []⟩ ((a, .sg 33) :: (a2, .wd w) :: r2) = mfail J ⟨cs, [], true, []⟩ r2 := fun cs => by
          rw [hm, mfail_some (s' := ⟨cs, [], true, w⟩)]
          · exact mfail_last (fun e => by rw [e] at hwd; exact absurd hwd (by decide)) (by decide) r2
          · rw [step]
            show (if isWord w = true then _ else _) = _
            rw [if_pos hwd]
            rfl
        rw [er]
        cases hx : readNode J n r2 with
        | err e =>
          rw [hx] at h1
          exact ⟨h1.1, h1.2.1.trans (hsuf2.trans hsuf), fun cs => by rw [hm2, h1.2.2]⟩
        | ok p r3 =>
          rw [hx] at h1
          obtain ⟨i1, i2, i3, i4, i5⟩ := h1
          refine ⟨i1, by simp; omega, i3.trans (hsuf2.trans hsuf), fun cs => by rw [hm2, i4], fun prev st i hg => ?_⟩
          obtain ⟨p1, k1, e1⟩ := i5 w (.bang w :: st) i hg
          refine ⟨p1, k1, ?_⟩
          show brun J prev (st, i) ([33] :: w :: texts r2) = _
          rw [brun_cons (st' := (.bang w :: st, i)) rfl]
          exact (brun_cons (t := txt (.wd w)) (bstep_id (show OkP (.wd w) from hwd) ⟨nofun, nofun, nofun, nofun, nofun⟩)).trans e1
      · have er : readNode J (n + 1) ((a, .sg 33) :: (a2, t2) :: r2) = .err ((a2, t2) :: r2) := by
          cases t2 <;> first | rfl | exact absurd ⟨_, rfl⟩ hw
        rw [er]
        refine ⟨ht, hsuf, fun cs => ?_⟩
        rw [hm]
        refine mfail_none ?_
        rw [step, if_neg (fun z => hw ((txt_isWord ht2).mp z))]
    · by_cases h91 : t = .sg 91
      · subst h91
        have ho' : opens r' < n := by
          have : opens ((a, Tk.sg 91) :: r') = opens r' + 1 := by simp [opens, isOpen]
          omega
        have ht := hr.tail nofun nofun
        have h1 := node_spec hJ n r' ht ho'
        have hm : ∀ cs, mfail J ⟨cs, [], true, []⟩ ((a, .sg 91) :: r') = mfail J ⟨0 :: cs, [], true, []⟩ r' := fun cs => by
          rw [mfail_some (s' := ⟨0 :: cs, [], true, [91]⟩)]
          · exact mfail_last (by decide) (by decide) r'
          · show mstep J ⟨cs, [], true, []⟩ [91] = _
            unfold mstep
            simp only
            rw [if_neg (by decide), if_pos ⟨trivial, trivial⟩]
        have er : readNode J (n + 1) ((a, .sg 91) :: r') = (match readNode J n r' with
          | .ok p e => readMore (readNode J n) (e.length + 1) [p] e
          | .err e => .err e) := rfl
        rw [er]
        cases hx : readNode J n r' with
        | err e =>
          rw [hx] at h1
          exact ⟨h1.1, h1.2.1.trans hsuf, fun cs => by rw [hm, h1.2.2]⟩
        | ok p r2 =>
          rw [hx] at h1
          obtain ⟨i1, i2, i3, i4, i5⟩ := h1
          have ih := more_spec (fun r hr ho => node_spec hJ n r hr ho) (r2.length + 1) [p] r2 (by simp) i1 (Nat.lt_of_le_of_lt (opens_suf i3) ho') (by omega)
          simp only
          cases hy : readMore (readNode J n) (r2.length + 1) [p] r2 with
          | err e =>
            rw [hy] at ih
            obtain ⟨j1, j2, j3⟩ := ih
            exact ⟨j1, j2.trans (i3.trans hsuf), fun cs => by rw [hm, i4]; exact j3 cs⟩
          | ok q r3 =>
            rw [hy] at ih
            obtain ⟨j1, j2, j3, j4, j5⟩ := ih
            refine ⟨j1, by simp; omega, j3.trans (i3.trans hsuf), fun cs => by rw [hm, i4]; exact j4 cs, fun prev st i hg => ?_⟩
            obtain ⟨p1, k1, e1⟩ := i5 [91] (.br [] :: st) i trivial
            obtain ⟨p2, k2, e2⟩ := j5 p1 st k1 hg
            refine ⟨p2, k2, ?_⟩
            show brun J prev (st, i) ([91] :: texts r') = _
            rw [brun_cons (st' := (.br [] :: st, i)) rfl, e1]
            exact e2
      · have er : readNode J (n + 1) ((a, t) :: r') = readScan J ((a, t) :: r') := by
          unfold readNode
          split
          · rename_i h; cases h; exact absurd rfl h33
          · rename_i h; cases h; exact absurd rfl h91
          · rfl
        rw [er]
        exact scan_spec hJ hr fun b q => ⟨fun e => h33 (by injection e with e _; injection e with _ e), fun e => h91 (by injection e with e _; injection e with _ e)⟩
/-- the whole text: the tokens that don't fit, or the plan -/
def whole (J : Body) (n : Nat) (ts : List TT) : Except (List TT) Pl := match readNode J n ts with
  | .ok p [(_, .fin)] => .ok p
  | .ok _ r => .error r
  | .err r => .error r
theorem whole_spec {J : Body} (hJ : OkJ J) {n : Nat} {ts : List TT} (hw : Wf ts) (ho : opens ts < n) : match whole J n ts with
    | .ok p => mfail J ⟨[], [], true, []⟩ ts = none ∧ ∃ i, brun J [] ([.br []], 0) (texts ts) = some ([.br [p]], i)
    | .error r => Wf r ∧ r <:+ ts ∧ mfail J ⟨[], [], true, []⟩ ts = some r := by
  have h := node_spec hJ n ts hw ho
  unfold whole
  cases hx : readNode J n ts with
  | err r =>
    rw [hx] at h
    exact ⟨h.1, h.2.1, h.2.2 []⟩
  | ok p r =>
    rw [hx] at h
    obtain ⟨i1, i2, i3, i4, i5⟩ := h
    obtain ⟨a, t, r', rfl⟩ := i1.ne
    have ok := i1.ok
    by_cases hf : t = .fin
    · subst hf
      cases i1 with
      | cons _ h _ _ => exact absurd rfl h
      | fin =>
        refine ⟨?_, ?_⟩
        · rw [i4]; rfl
        · obtain ⟨p1, k1, e1⟩ := i5 [] [.br []] 0 trivial
          exact ⟨k1, by rw [e1]; rfl⟩
    · have e : (match Res.ok p ((a, t) :: r') with
          | .ok p [(_, .fin)] => (Except.ok p : Except (List TT) Pl)
          | .ok _ r => .error r
          | .err r => .error r) = .error ((a, t) :: r') := by
        cases t <;> first | rfl | exact absurd rfl hf
      rw [e]
      refine ⟨i1, i3, ?_⟩
      rw [i4]
      refine mfail_none ?_
      unfold mstep
      simp only [bump, topBig]
      have hne : txt t ≠ [] := fun z => hf ((txt_nil ok).mp z)
      simp [hne]
end K26

end
section
set_option linter.all false
set_option maxRecDepth 100000
set_option maxHeartbeats 4000000
namespace K26
open PySem PySem.Spec PyProof.Rows L2
open SX (S S_len S_cat S_inj)
open PySem.NumText
local macro_rules | `(tactic| wtm_at "rd") => `(tactic| try simp only [tSeq, tAsg, tVar, tC, gName, tRet, tRetN, tIfS, tNext, tDrop, tOp, tUn, rI0, rI, rU, tTest, tB, tAnd, tOr, tNot, tAndV, tOrV, tNotV, tIf, tCB, tCons, tNil, tTup, tLst, tCall, tSl, tPart, tNoPart, tBM, tBM0, gTup, gCons, gNil, gSub, tAug, ipI, rEq, rNe, sc_ii, sc_ss, sc_bb, sc_nn, sc_is, sc_si, sc_ns, sc_sn, sc_ni, sc_in, z0, z1, z2, z3, z4, z5, if_true, if_false, Bool.not_eq_true', decide_eq_false_iff_not, rIxS, rSlS, rSlL, tAugS, rGetL, cast1, rIxL, rIxT, rSetL, rAppend, rPop, rPopAt, rReverse, rCat, tYes, iRng1, iRng2, tMkBad, rIn, tFld, sFld, sFldAug, rAdd, tMeth, tMake, tCallS, tBadF, tM1, iList, iTup, iEnum, iEnumT, iStr, tBreak, C8.tCut, tFor_eq, tLc_eq, wipe_1,
  L2.start, List.map_cons, List.map_nil, List.cons_append, List.nil_append, List.append_nil, List.length_cons, List.length_nil, Nat.reduceAdd, Nat.reduceSub, List.replicate_succ, List.replicate_zero,
  List.getElem?_cons_succ, List.getElem?_cons_zero, List.set_cons_succ, List.set_cons_zero, Option.some.injEq, V.int.injEq, V.str.injEq, V.ref.injEq, V.bl.injEq, List.cons.injEq, and_assoc, and_true, true_and, exists_eq_left', exists_eq_left, exists_and_left, exists_and_right, exists_eq, decide_eq_true_eq, reduceCtorEq, false_and, and_false, exists_false, false_or, or_false, S_len, S_eq, k0, k1, k2, k3, k4, k5, k6, k7, k8, k9, k10, k11, k12, k13, k14, k15, k16, k17, k18, k19, k20, k21, k22, k23, k24, k25, k26, k27, k28, k29, k30, k31, k32, k33, k34, k35, k36, k37, k38, k39, k40, k41, k42, k43, k44, k45, k46, k47, k48, k49, k50, k51, k52, k53, Nat.zero_add])

section
/-! ### data of ints, texts and tuples -/
inductive D where
  | i (n : Int) | s (w : List Nat) | t (ds : List D)
mutual
def Rep (H : Hp) : D → V → Prop
  | .i n, v => v = .int n
  | .s w, v => v = .str (S w)
  | .t ds, v => ∃ a xs, v = .ref a ∧ H a = some (.tup xs) ∧ Reps H ds xs
def Reps (H : Hp) : List D → List V → Prop
  | [], xs => xs = []
  | d :: ds, xs => ∃ x r, xs = x :: r ∧ Rep H d x ∧ Reps H ds r
end
/-- tuples stay -/
def KT (H H' : Hp) : Prop := ∀ b xs, H b = some (.tup xs) → H' b = some (.tup xs)
theorem KT.refl (H : Hp) : KT H H := fun _ _ h => h
theorem KT.trans {H H1 H2 : Hp} (a : KT H H1) (b : KT H1 H2) : KT H H2 := fun c o h => b c o (a c o h)
theorem KT.same {H H1 : Hp} (a : Same H H1) : KT H H1 := fun c o h => a c _ h
theorem KT.kp {x : Addr} {H H1 : Hp} {o : HO} (a : Kp x H H1) (h : H x = some o) (ht : ∀ xs, o ≠ .tup xs) : KT H H1 := fun c u q => a c _ (ne_of q h fun z => ht _ z.symm) q
theorem KT.upd {H H1 : Hp} {x : Addr} {o u : HO} (a : KT H H1) (h : H1 x = some o) (ht : ∀ xs, o ≠ .tup xs) : KT H (L2.upd H1 x u) := fun c xs q => by
  rw [upd_ne (ne_of (a c xs q) h fun z => ht _ z.symm)]; exact a c xs q
theorem KT.new {H H1 : Hp} {x : Addr} {u : HO} (a : KT H H1) (h : H1 x = none) : KT H (L2.upd H1 x u) := fun c xs q => by
  rw [upd_ne (ne_of_none (a c xs q) h)]; exact a c xs q
mutual
theorem Rep.kt {H H' : Hp} (k : KT H H') : ∀ (d : D) (v : V), Rep H d v → Rep H' d v
  | .i _, _, h => h
  | .s _, _, h => h
  | .t ds, v, h => let ⟨a, xs, e, h1, h2⟩ := h; ⟨a, xs, e, k _ _ h1, Reps.kt k ds xs h2⟩
theorem Reps.kt {H H' : Hp} (k : KT H H') : ∀ (ds : List D) (xs : List V), Reps H ds xs → Reps H' ds xs
  | [], _, h => h
  | d :: ds, _, h => let ⟨x, r, e, h1, h2⟩ := h; ⟨x, r, e, Rep.kt k d x h1, Reps.kt k ds r h2⟩
end
theorem reps_get {H : Hp} : ∀ {ds : List D} {xs : List V} {i : Nat} {d : D}, Reps H ds xs → ds[i]? = some d → ∃ x, xs[i]? = some x ∧ Rep H d x
  | [], _, _, _, _, e => by simp at e
  | d :: ds, _, i, _, h, e => by
    obtain ⟨x, r, rfl, h1, h2⟩ := h
    cases i with
    | zero => simp at e; subst e; exact ⟨x, rfl, h1⟩
    | succ i => simp at e; obtain ⟨y, h3, h4⟩ := reps_get h2 e; exact ⟨y, by simpa using h3, h4⟩
theorem reps_of {H : Hp} : ∀ {ds : List D} {xs : List V} {i : Nat} {x : V}, Reps H ds xs → xs[i]? = some x → ∃ d, ds[i]? = some d ∧ Rep H d x
  | [], xs, i, _, h, e => by have h : xs = [] := h; subst h; simp at e
  | d :: ds, _, i, y, h, e => by
    obtain ⟨x, r, rfl, h1, h2⟩ := h
    cases i with
    | zero => simp at e; subst e; exact ⟨d, rfl, h1⟩
    | succ i => simp at e; obtain ⟨y, h3, h4⟩ := reps_of h2 e; exact ⟨y, by simpa using h3, h4⟩
theorem reps_len {H : Hp} : ∀ {ds : List D} {xs : List V}, Reps H ds xs → xs.length = ds.length
  | [], xs, h => by have h : xs = [] := h; subst h; rfl
  | d :: ds, _, h => by
    obtain ⟨x, r, rfl, h1, h2⟩ := h
    simp [reps_len h2]
theorem reps_app {H : Hp} : ∀ {ds es : List D} {xs ys : List V}, Reps H ds xs → Reps H es ys → Reps H (ds ++ es) (xs ++ ys)
  | [], _, xs, _, h, k => by have h : xs = [] := h; subst h; exact k
  | d :: ds, _, _, _, h, k => by
    obtain ⟨x, r, rfl, h1, h2⟩ := h
    exact ⟨x, _, rfl, h1, reps_app h2 k⟩
theorem rep_dp {K : PySem.W.Frag} {H : Hp} {w : List Nat} : Dp K H (.str (S w)) (.str (S w)) := .str _
abbrev sVar : List Nat := [118, 97, 114]
abbrev sValue : List Nat := [118, 97, 108, 117, 101]
def tmD : Tm → D
  | .var w => .t [.s sVar, .s w]
  | .int i => .t [.s sValue, .i i]
  | .word w => .t [.s sValue, .s w]
def atomD (a : Atom) : D := .t [.s a.1, .t (a.2.map tmD)]
def joinD (J : Body) : D := .t [.t [], .t (J.map atomD)]
mutual
def planD : Pl → D
  | .scan i => .t [.s [115, 99, 97, 110], .i (i : Int)]
  | .join ps => .t [.s [106, 111, 105, 110], .t (plansD ps)]
  | .proj x p => .t [.s [112, 114, 111, 106, 101, 99, 116], .s x, planD p]
def plansD : List Pl → List D
  | [] => []
  | p :: ps => planD p :: plansD ps
end
theorem plansD_app (ps qs : List Pl) : plansD (ps ++ qs) = plansD ps ++ plansD qs := by
  induction ps with
  | nil => rfl
  | cons p r ih => simp [plansD, ih]
theorem plansD_len (ps : List Pl) : (plansD ps).length = ps.length := by
  induction ps with
  | nil => rfl
  | cons p r ih => simp [plansD, ih]
/-- a term's tuple -/
def tmV : Tm → List V
  | .var w => [.str (S sVar), .str (S w)]
  | .int i => [.str (S sValue), .int i]
  | .word w => [.str (S sValue), .str (S w)]
theorem rep_tm {H : Hp} {t : Tm} {v : V} (h : Rep H (tmD t) v) : ∃ a, v = .ref a ∧ H a = some (.tup (tmV t)) := by
  cases t <;> simp only [tmD, Rep, Reps] at h <;> (obtain ⟨a, xs, rfl, h1, x, r, rfl, rfl, y, q, rfl, rfl, rfl⟩ := h; exact ⟨a, rfl, h1⟩)
theorem rep_atom {H : Hp} {a : Atom} {v : V} (h : Rep H (atomD a) v) : ∃ p q xs, v = .ref p ∧ H p = some (.tup [.str (S a.1), .ref q]) ∧ H q = some (.tup xs) ∧ Reps H (a.2.map tmD) xs := by
  simp only [atomD, Rep, Reps] at h
  obtain ⟨p, xs, rfl, h1, x, r, rfl, rfl, y, q, rfl, ⟨q', ys, rfl, h2, h3⟩, rfl⟩ := h
  exact ⟨p, q', ys, rfl, h1, h2, h3⟩
theorem rep_join {H : Hp} {J : Body} {v : V} (h : Rep H (joinD J) v) : ∃ p e q xs, v = .ref p ∧ H p = some (.tup [.ref e, .ref q]) ∧ H q = some (.tup xs) ∧ Reps H (J.map atomD) xs := by
  simp only [joinD, Rep, Reps] at h
  obtain ⟨p, xs, rfl, h1, x, r, rfl, ⟨e, es, rfl, _, _⟩, y, q, rfl, ⟨q', ys, rfl, h2, h3⟩, rfl⟩ := h
  exact ⟨p, e, q', ys, rfl, h1, h2, h3⟩
/-- bounds -/
def JB (J : Body) : Prop := J.length ≤ 1000
def Outc (K : PySem.W.Frag) (CB x : Addr) (H : Hp) (ts : List TT) (Q : VK) (E : XK) : Res → Prop
  | .ok p r => ∀ H' v m, Kp x H H' → LineAt (CL K) H' x ts m → ts.drop m = r → Rep H' (planD p) v → Q v H'
  | .err r => ∀ a t r', r = (a, t) :: r' → BadW CB x H E a
theorem Outc.kp {K : PySem.W.Frag} {CB x : Addr} {H H1 : Hp} {ts : List TT} {Q : VK} {E : XK} {o : Res} (h : Outc K CB x H ts Q E o) (k : Kp x H H1) : Outc K CB x H1 ts Q E o := by
  cases o with
  | ok p r => exact fun H' v m k' => h H' v m (k.trans k')
  | err r => exact fun a t r' e => (h a t r' e).kp k
theorem drop_get {ts : List TT} {n a : Nat} {t : Tk} {r : List TT} (h : ts.drop n = (a, t) :: r) : ts[n]? = some (a, t) ∧ ts.drop (n + 1) = r := by
  have hl : n < ts.length := by
    have := congrArg List.length h
    rw [List.length_drop, List.length_cons] at this
    omega
  rw [List.drop_eq_getElem_cons hl] at h
  injection h with h1 h2
  exact ⟨by rw [List.getElem?_eq_getElem hl, h1], h2⟩
/-- the rest of an atom from a comma on -/
def tailT : List Tm → List Tk
  | [] => []
  | t :: r => .sg 44 :: tokOf t :: tailT r
theorem sepT_cons (t : Tm) (r : List Tm) : sepT (t :: r) = tokOf t :: tailT r := by
  induction r generalizing t with
  | nil => rfl
  | cons u r ih => show tokOf t :: .sg 44 :: sepT (u :: r) = _; rw [ih]; rfl
theorem kindS_sg {t : Tk} {c : Nat} : kindS t = [c] ↔ t = .sg c := by
  cases t <;> simp [kindS]
theorem kindS_wd {t : Tk} : kindS t = [119, 111, 114, 100] ↔ ∃ w, t = .wd w := by
  cases t <;> simp [kindS]
theorem kindS_fin {t : Tk} : kindS t = [101, 110, 100] ↔ t = .fin := by
  cases t <;> simp [kindS]
theorem termV_tok {t : Tk} {m : Tm} : termV t = some (tmV m) ↔ t = tokOf m := by
  cases t <;> cases m <;> simp [termV, tmV, tokOf, S_eq]
theorem termV_some {t : Tk} {l : List V} (h : termV t = some l) : ∃ m, t = tokOf m ∧ l = tmV m := by
  cases t with
  | wd w => cases h; exact ⟨.var w, rfl, rfl⟩
  | qd w => cases h; exact ⟨.word w, rfl, rfl⟩
  | it i => cases h; exact ⟨.int i, rfl, rfl⟩
  | sg c => cases h
  | bad => cases h
  | fin => cases h
def tmP : Tm → PyData
  | .var w => .tuple [.str (S sVar), .str (S w)]
  | .int i => .tuple [.str (S sValue), .int i]
  | .word w => .tuple [.str (S sValue), .str (S w)]
theorem dp_tm {K : PySem.W.Frag} {H : Hp} {a : Addr} {m : Tm} (h : H a = some (.tup (tmV m))) : Dp K H (.ref a) (tmP m) := by
  cases m <;> exact .tup (SqT.of h) (.cons (.str _) (.cons (by constructor) .nil))
theorem strOk_word {w : List Nat} (h : isWord w = true) : PyData.strOk (S w) = true := by
  unfold isWord at h
  rw [Bool.and_eq_true] at h
  have h := List.all_eq_true.mp h.2
  unfold PyData.strOk S
  rw [Array.all_eq_true']
  intro c hc
  have := isL_iff.mp (h c (by simpa using hc))
  simp; omega
theorem strOk_var : PyData.strOk (S sVar) = true := by decide +kernel
theorem strOk_value : PyData.strOk (S sValue) = true := by decide +kernel
theorem shaped_tm {m : Tm} (h : OkTm m) : SeqAt.shaped (tmP m) = true := by
  cases m <;> simp [tmP, SeqAt.shaped, PyData.canLay0, PyData.canLayAll0, PyData.depth, PyData.depthAll, strOk_var, strOk_value] <;> exact strOk_word h
theorem eqv_tm (m n : Tm) : PyData.eqv (tmP m) (tmP n) = decide (m = n) := by
  have e : ∀ x y : List Nat, (S x == S y) = decide (x = y) := fun x y => by
    rw [SX.S_beq]
    by_cases h : x = y <;> simp [h]
  have f : ∀ x y : Int, (x == y) = decide (x = y) := fun x y => by by_cases h : x = y <;> simp [h]
  cases m <;> cases n <;> simp [tmP, PyData.eqv, PyData.eqvAll, e, f]
def spScan (K : PySem.W.Frag) (CB : Addr) : Sp := fun vs H Q E => ∃ (x : Addr) (ts : List TT) (n : Nat) (jv : V) (J : Body), vs = [.ref x, jv] ∧ LineAt (CL K) H x ts n ∧ Wf (ts.drop n) ∧ Rep H (joinD J) jv ∧ JB J ∧ OkJ J ∧ Outc K CB x H ts Q E (readScan J (ts.drop n))
variable {P : Program} {w : World} {K : PySem.W.Frag} {mg : Str → Option Value} {base : Heap} {CB fI : Addr}
theorem names_in {J : Body} {w : List Nat} {xs : List V} (hx : xs = J.map fun a => V.str (S a.1)) : inV (.str (S w)) xs = (findN J w).isSome := by
  subst hx
  induction J with
  | nil => rfl
  | cons a r ih =>
    show ((S a.1 == S w) || inV (.str (S w)) (r.map _)) = _
    rw [ih, SX.S_beq, findN]
    by_cases h : a.1 = w
    · simp [h]
    · simp [h]
theorem names_at {J : Body} {w : List Nat} {i : Nat} {a : Atom} (h : findN J w = some (i, a)) : (J.map fun a => V.str (S a.1))[i]? = some (.str (S w)) ∧ ∀ (m : Nat) (z : V), m < i → (J.map fun a => V.str (S a.1))[m]? = some z → eqV z (.str (S w)) = false := by
  induction J generalizing i a with
  | nil => cases h
  | cons b r ih =>
    unfold findN at h
    split at h
    · rename_i e
      cases h
      exact ⟨by simp [e], fun m z hm => by omega⟩
    · rename_i e
      cases hf : findN r w with
      | none => rw [hf] at h; cases h
      | some q =>
        rw [hf] at h
        obtain ⟨j, c⟩ := q
        cases h
        obtain ⟨h1, h2⟩ := ih hf
        refine ⟨by simpa using h1, fun m z hm hz => ?_⟩
        cases m with
        | zero =>
          simp at hz
          subst hz
          show (S b.1 == S w) = false
          rw [SX.S_beq]
          simpa using e
        | succ m => exact h2 m z (by omega) (by simpa using hz)
theorem names_flat (J : Body) : (J.map fun a => V.str (S a.1)).all flatV = true := by
  rw [List.all_eq_true]
  intro x hx
  obtain ⟨a, _, rfl⟩ := List.mem_map.mp hx
  rfl
abbrev sc_read_scan_N : List Str := ["line", "join", "names", "atom", "index", "at", "term"]
abbrev sc_read_scan_P : List Str := ["line", "join"]
abbrev sc_read_scan_s : Scope := defScope s_read_scan
theorem sc_read_scan : FnScope sc_read_scan_N sc_read_scan_P sc_read_scan_s := ⟨rfl, rfl, rfl, by decide +kernel, rfl, by decide +kernel, by decide +kernel⟩

theorem ok_read_scan (T : Txt K mg) (B : BadTxt K mg CB fI) (BP : BadP P) : Cal P w K mg base (L2.CX P w) 6 "read_scan" (spScan K CB) := by
  have c_kind : Met P w K mg base CX0 1 (CL K) "kind" (spKind (CL K)) := ok_kind T
  have c_value : Met P w K mg base CX0 1 (CL K) "value" (spValue (CL K)) := ok_value T
  have c_term : Met P w K mg base CX0 2 (CL K) "term" (spTerm (CL K)) := ok_term T
  have c_refuse : Met P w K mg base (L2.CX P w) 3 (CL K) "refuse" (spRefuse (CL K) CB) := ok_refuse T B BP
  have c_take : Met P w K mg base (L2.CX P w) 4 (CL K) "take" (spTake (CL K) CB) := ok_take T B BP
  have c_take_term : Met P w K mg base (L2.CX P w) 5 (CL K) "take_term" (spTakeTerm (CL K) CB) := ok_take_term T B BP
  refine calX T.f_read_scan T.g_read_scan sc_read_scan (fun _ _ _ _ _ _ us hl => match us, hl with | [_, _], _ => rfl) (fun vs H Q E h => ?_) (fun cdv A outer s H vs Q E hr h => ?_)
  · obtain ⟨x, ts, n, jv, J, rfl, _⟩ := h; rfl
  · obtain ⟨x, ts, n, jv, J, rfl, hL, hW, hJ, hB, hO, q⟩ := h
    obtain ⟨jp, je, jq, jxs, rfl, hj1, hj2, hj3⟩ := rep_join hJ
    obtain ⟨a, t, r, hr0⟩ := hW.ne
    obtain ⟨ht, hd1⟩ := drop_get hr0
    have hxi : ∃ dx L, H x = some (.ins (CL K) dx (LineF L n)) := let ⟨dx, L, _, h, _⟩ := hL.ex; ⟨dx, L, h⟩
    refine ⟨_, (pss_cons (ps_setLc (i := 2) (own := [("atom", 3)]) (g := gName 3) (tt := tYes) rfl sc_read_scan.nd rfl rfl (sw_true rfl rfl rfl (by decide +kernel)) (pi_tup (pe_ix ix_tup (pv 1) pe_int (fun _ _ => rfl))) (blkOk_by (own := [("atom", 3)]) (N := sc_read_scan_N) (sc := sc_read_scan_s) (by decide +kernel)) (fun _ _ _ _ _ => pg_name (i := 3) sc_read_scan.nd rfl (Or.inl rfl)) (fun _ _ _ _ _ => pts_nil) (fun _ _ _ _ _ => (pe_ix (kx_tup (K := K) rfl) (pv 3) pe_int (fun _ _ => rfl))))
      (pss_cons (ps_if (PW.pt (pw_and (pt_cmpR op_eq (pe_mx0 c_kind hr (by omega) pass0 (pv 0)) pe_str (nomark _)) (pw_and1 (pt_cmpR op_notIn_seq (pe_mx0 c_value hr (by omega) pass0 (pv 0)) (pv 2) rfl)))) (pss_one (ps_expr (pe_mx0 c_refuse hr (by omega) (passes_call (takes_of rfl rfl rfl rfl) (fun _ _ _ _ h => h)) (pv 0)))) pss_nil)
      (pss_cons (ps_set (i := 4) sc_read_scan.nd rfl (by first | exact Or.inl rfl | exact Or.inr rfl) (pe_bm PySem.F.plainAttrs_list PySem.F.slot_list_index PySem.F.type_list_index mt_index (pv 2) (pa_cons (pe_mx c_take hr (by omega) (passes_call (takes_of rfl rfl rfl rfl) (fun _ _ _ _ h => h)) (pv 0) (pa_cons pe_str pa_nil)) pa_nil)))
      (pss_cons (ps_expr (pe_mx c_take hr (by omega) (passes_call (takes_of rfl rfl rfl rfl) (fun _ _ _ _ h => h)) (pv 0) (pa_cons pe_str pa_nil)))
      (pss_cons (ps_for (passes_of rfl) rfl (pi_enumT T (pe_ix ix_tup (pe_ix ix_tup (pe_ix ix_tup (pv 1) pe_int (fun _ _ => rfl)) (pv 4) (fun _ _ => rfl)) pe_int (fun _ _ => rfl))) (pg_tup (by rfl) (pgs_cons (pg_name (i := 5) sc_read_scan.nd rfl (by first | exact Or.inl rfl | exact Or.inr rfl)) (pgs_cons (pg_name (i := 6) sc_read_scan.nd rfl (by first | exact Or.inl rfl | exact Or.inr rfl)) pgs_nil))) (pss_cons (ps_if (pt_cmpR op_gt (pv 5) pe_int (nomark _)) (pss_one (ps_expr (pe_mx c_take hr (by omega) (passes_call (takes_of rfl rfl rfl rfl) (fun _ _ _ _ h => h)) (pv 0) (pa_cons pe_str pa_nil)))) pss_nil)
      (pss_cons (ps_if (pt_cmpR (op_neD hr.units) (pe_mx0 c_term hr (by omega) pass0 (pv 0)) (pv 6) (nomark _)) (pss_one (ps_expr (pe_mx0 c_refuse hr (by omega) (passes_call (takes_of rfl rfl rfl rfl) (fun _ _ _ _ h => h)) (pv 0)))) pss_nil)
      (pss_one (ps_expr (pe_mx0 c_take_term hr (by omega) (passes_call (takes_of rfl rfl rfl rfl) (fun _ _ _ _ h => h)) (pv 0)))))))
      (pss_cons (ps_expr (pe_mx c_take hr (by omega) (passes_call (takes_of rfl rfl rfl rfl) (fun _ _ _ _ h => h)) (pv 0) (pa_cons pe_str pa_nil)))
      (pss_one (ps_ret (pe_tup (pa_cons pe_str (pa_cons (pv 4) pa_nil))))))))))), ?_⟩
    wtm_at "rd"
    refine ⟨_, SqT.of hj1, _, rfl, _, rfl, ⟨_, SqT.of hj2⟩, ?_⟩
    have aj : ∀ {i : Nat} {v : V}, jxs[i]? = some v → ∃ at_, J[i]? = some at_ ∧ Rep H (atomD at_) v := fun {i v} e => by
      obtain ⟨d, h1, h2⟩ := reps_of hj3 e
      rw [List.getElem?_map] at h1
      obtain ⟨b, h3, rfl⟩ := Option.map_eq_some_iff.mp h1
      exact ⟨b, h3, h2⟩
    have hjl : jxs.length = J.length := by rw [reps_len hj3, List.length_map]
    have hB' : J.length ≤ 1000 := hB
    refine lcb (walk_tup (xs := jxs)) (fun D i H' => H' = upd H D (.lst ((J.map fun a => V.str (S a.1)).take i))) (fun D hD => rfl) (fun D i H' hD e => ?_) (fun D i v H1 H2 hD hi e y => ?_) (fun D H' hD e => ?_)
    · rw [e]; exact SqT.of (by rw [upd_ne (ne_of_none hj2 hD)]; exact hj2)
    · obtain ⟨rfl, hv⟩ := y
      subst e
      obtain ⟨at_, h1, h2⟩ := aj hv
      obtain ⟨ap, aq, axs, rfl, h3, h4, h5⟩ := rep_atom h2
      wtm_at "rd"
      refine ⟨_, SqT.of (by rw [upd_ne (ne_of_none h3 hD)]; exact h3), _, rfl, ?_⟩
      exact acc_next (by rw [List.getElem?_map, h1]; rfl) (by rw [List.length_map]; omega) (fun H' => H' = _) rfl
    · rw [List.take_of_length_le (by rw [List.length_map, hjl]; exact Nat.le_refl _)] at e
      subst e
      have sm : Same H (upd H D (.lst (J.map fun a => V.str (S a.1)))) := same_new hD _
      have hL1 := hL.same sm
      have q1 := q.kp (Kp.same sm)
      obtain ⟨dx, L, _, hx, _⟩ := hL.ex
      have hx1 := sm _ _ hx
      wtm_at "rd"
      refine ⟨dx, _, hx1, lk_kind _ _, x, ts, n, a, t, rfl, hL1, ht, ?_⟩
      wtm_at "rd"
      refine ite2 (fun h => ?_) (fun h => ?_)
      · obtain ⟨wd, rfl⟩ := kindS_wd.mp h
        refine ⟨dx, _, hx1, lk_value _ _, x, ts, n, a, .wd wd, rfl, hL1, ht, _, .inl (SqL.of upd_same), rfl, names_flat J, ?_⟩
        show ite (inV (.str (S wd)) _ = false) _ _
        rw [names_in rfl]
        rw [hr0] at q1
        refine ite2 (fun h => ?_) (fun h => ?_)
        · have hf : findN J wd = none := by simpa using h
          simp only [readScan, hf] at q1
          exact ⟨dx, _, hx1, lk_refuse _ _, x, ts, n, a, .wd wd, rfl, hL1, ht, q1 a _ r rfl⟩
        · obtain ⟨⟨i, at_⟩, hf⟩ : ∃ z, findN J wd = some z := by
            cases hf : findN J wd with
            | none => rw [hf] at h; simp at h
            | some z => exact ⟨z, rfl⟩
          simp only [readScan, hf] at q1
          obtain ⟨hm1, hm2, hm3⟩ := findN_mem hf
          refine ⟨tyL upd_same, dx, _, hx1, lk_take _ _, x, ts, n, a, .wd wd, _, rfl, hL1, ht, fun _ H2 k2 hL2 => ?_, fun z => absurd rfl z⟩
          have hDx : D ≠ x := (ne_of_none hx hD).symm
          have hD2 : H2 D = some (.lst (J.map fun a => V.str (S a.1))) := k2 _ _ hDx upd_same
          have kt2 : KT H H2 := (KT.same sm).trans (KT.kp k2 hx1 fun _ z => by cases z)
          refine ⟨D, _, .str (S wd), i, _, rfl, rfl, SqL.of hD2, rfl, names_flat J, (names_at hf).1, by show (S wd == S wd) = true; rw [SX.S_beq]; simp, (names_at hf).2, ?_⟩
          wtm_at "rd"
          have hx2 : ∃ dx L, H2 x = some (.ins (CL K) dx (LineF L (n + 1))) := let ⟨dx, L, _, h, _⟩ := hL2.ex; ⟨dx, L, h⟩
          obtain ⟨dx2, L2', hx2⟩ := hx2
          rw [hr0] at hW
          have hW2 := hW.tail nofun nofun
          obtain ⟨a2, t2, r2, rfl⟩ := hW2.ne
          obtain ⟨ht2, hd2⟩ := drop_get hd1
          have q2 := q1.kp k2
          clear q1
          refine ⟨dx2, _, hx2, lk_take _ _, x, ts, n + 1, a2, t2, _, rfl, hL2, ht2, fun h40 H3 k3 hL3 => ?_, fun h40 => ?_⟩
          · have e40 : t2 = .sg 40 := kindS_sg.mp h40
            subst e40
            have ex1 : expectAll (pend at_) ((a2, Tk.sg 40) :: r2) = expectAll (sepT at_.2 ++ [Tk.sg 41]) r2 := by
              show (if Tk.sg 40 = Tk.sg 40 then _ else _) = _
              rw [if_pos rfl]
            rw [ex1] at q2
            have q3 := q2.kp k3
            clear q2
            have kt3 : KT H H3 := kt2.trans (KT.kp k3 hx2 fun _ z => by cases z)
            wtm_at "rd"
            obtain ⟨v, hv, hv2⟩ := reps_get hj3 (d := atomD at_) (i := i) (by rw [List.getElem?_map, hm3]; rfl)
            obtain ⟨ap, aq, axs, rfl, h3, h4, h5⟩ := rep_atom hv2
            refine ⟨_, SqT.of (kt3 _ _ hj1), _, rfl, _, rfl, _, SqT.of (kt3 _ _ hj2), _, atI_nat hv, ap, rfl, _, SqT.of (kt3 _ _ h3), _, rfl, aq, rfl, ⟨_, SqT.of (kt3 _ _ h4)⟩, ?_⟩
            have hW3 := hW2.tail nofun nofun
            have hal : axs.length = at_.2.length := by rw [reps_len h5, List.length_map]
            obtain ⟨Pv, hPv⟩ := opq3 fun i' σ Hc => ∃ (m : Nat) (u1 u2 : Option V), Kp x H3 Hc ∧ LineAt (CL K) Hc x ts m ∧ Wf (ts.drop m) ∧ σ = [some (V.ref x), some (V.ref jp), some (V.ref D), none, some (V.int (i : Int)), u1, u2] ∧
              expectAll (sepT at_.2 ++ [Tk.sg 41]) r2 = expectAll ((if i' = 0 then sepT at_.2 else tailT (at_.2.drop i')) ++ [Tk.sg 41]) (ts.drop m)
            have bad : ∀ {us : List Tk} {u : Tk} {Hc : Hp} {m a' : Nat} {t' : Tk} {r' : List TT}, Kp x H3 Hc → ts.drop m = (a', t') :: r' → expectAll (sepT at_.2 ++ [Tk.sg 41]) r2 = expectAll (u :: us) (ts.drop m) → t' ≠ u → BadW CB x Hc E a' := fun {us u Hc m a' t' r'} k hd he hne => by
              have e : expectAll (u :: us) ((a', t') :: r') = ((a', t') :: r', false) := by
                show (if t' = u then _ else _) = _
                rw [if_neg hne]
              rw [hd, e] at he
              rw [he] at q3
              exact (q3 a' t' r' rfl).kp k
            have hx3 : ∃ dx L, H3 x = some (.ins (CL K) dx (LineF L (n + 1 + 1))) := let ⟨dx, L, _, h, _⟩ := hL3.ex; ⟨dx, L, h⟩
            obtain ⟨dx3, L3', hx3⟩ := hx3
            refine forb (walk_enumT (xs := axs)) Pv ((hPv _ _ _).mpr ⟨n + 1 + 1, none, none, Kp.refl _ _, hL3, by rw [hd2]; exact hW3, rfl, by rw [hd2]; rfl⟩) (fun i' σ Hc p => ?_) (fun i' v σ Hc Hc' hi p y => ?_) (fun σ Hc p => ?_)
            · obtain ⟨m, u1, u2, k, _⟩ := (hPv _ _ _).mp p
              exact SqT.of ((KT.kp k hx3 fun _ z => by cases z) _ _ (kt3 _ _ h4))
            · obtain ⟨m, u1, u2, kc, hLc, hWc, rfl, hex⟩ := (hPv _ _ _).mp p
              obtain ⟨Tp, x', y', rfl, hTp, rfl, ex', hy⟩ := y
              cases ex'
              have smc := same_new hTp (.tup [.int (i' : Nat), y'])
              obtain ⟨dm, hdm, hrep⟩ := reps_of h5 hy
              rw [List.getElem?_map] at hdm
              obtain ⟨tm, htm, rfl⟩ := Option.map_eq_some_iff.mp hdm
              have hdt : at_.2.drop i' = tm :: at_.2.drop (i' + 1) := by
                obtain ⟨hi2, e2⟩ := List.getElem?_eq_some_iff.mp htm
                rw [List.drop_eq_getElem_cons hi2, e2]
              obtain ⟨ta, rfl, hta⟩ := rep_tm hrep
              have hok : OkTm tm := hO.terms at_ hm1 tm (List.mem_of_getElem? htm)
              have ktc : KT H (upd Hc Tp (.tup [.int (i' : Nat), .ref ta])) := (kt3.trans (KT.kp kc hx3 fun _ z => by cases z)).trans (KT.same smc)
              obtain ⟨dxc, Lc, _, hxc, _⟩ := hLc.ex
              have hxc1 := smc _ _ hxc
              have hLc1 := hLc.same smc
              have kc1 : Kp x H3 (upd Hc Tp (.tup [.int (i' : Nat), .ref ta])) := kc.trans (Kp.same smc)
              wtm_at "rd"
              refine ⟨_, SqT.of upd_same, ?_⟩
              wtm_at "rd"
              refine ⟨rfl, ?_⟩
              apply share (Pre := fun H4 => ∃ m4, Kp x H3 H4 ∧ KT H H4 ∧ KT (upd Hc Tp (.tup [.int (i' : Nat), .ref ta])) H4 ∧ LineAt (CL K) H4 x ts m4 ∧ Wf (ts.drop m4) ∧ expectAll (sepT at_.2 ++ [Tk.sg 41]) r2 = expectAll (tokOf tm :: (tailT (at_.2.drop (i' + 1)) ++ [Tk.sg 41])) (ts.drop m4))
              · intro key
                refine ite2 (fun h0 => ?_) (fun h0 => ?_)
                · have hi0 : i' ≠ 0 := by omega
                  rw [if_neg hi0, hdt] at hex
                  obtain ⟨a3, t3, r3, hd3⟩ := hWc.ne
                  obtain ⟨ht3, hd4⟩ := drop_get hd3
                  refine ⟨dxc, _, hxc1, lk_take _ _, x, ts, m, a3, t3, _, rfl, hLc1, ht3, fun h44 H4 k4 hL4 => ?_, fun h44 => ?_⟩
                  · have e44 := kindS_sg.mp h44
                    subst e44
                    refine key H4 ⟨m + 1, kc1.trans k4, ktc.trans (KT.kp k4 hxc1 fun _ z => by cases z), KT.kp k4 hxc1 (fun _ z => by cases z), hL4, ?_, ?_⟩
                    · rw [hd4]; rw [hd3] at hWc; exact hWc.tail nofun nofun
                    · rw [hex, hd3, hd4]
                      show (if Tk.sg 44 = Tk.sg 44 then _ else _) = _
                      rw [if_pos rfl]
                      rfl
                  · exact bad kc1 hd3 hex fun z => h44 (kindS_sg.mpr z)
                · have hi0 : i' = 0 := by omega
                  refine key _ ⟨m, kc1, ktc, KT.refl _, hLc1, hWc, ?_⟩
                  rw [hex, if_pos hi0]
                  subst hi0
                  rw [List.drop_zero] at hdt
                  rw [hdt, sepT_cons]
                  rfl
              · rintro H4 ⟨m4, k4, kt4, ktp, hL4, hW4, hex4⟩
                obtain ⟨dx4, L4, _, hx4, _⟩ := hL4.ex
                obtain ⟨a4, t4, r4, hd4⟩ := hW4.ne
                obtain ⟨ht4, hd5⟩ := drop_get hd4
                have hta4 : H4 ta = some (.tup (tmV tm)) := kt4 _ _ hta
                refine ⟨dx4, _, hx4, lk_term _ _, x, ts, m4, a4, t4, rfl, hL4, ht4, fun hn H5 sm5 => ?_, fun l hl p H5 sm5 hp => ?_⟩
                · refine ⟨.none, tmP tm, .non, dp_tm (sm5 _ _ hta4), rfl, shaped_tm hok, ?_⟩
                  have e : PyData.eqv .none (tmP tm) = false := by cases tm <;> rfl
                  refine ⟨_, rfl, ?_⟩
                  rw [e]
                  refine ⟨dx4, _, sm5 _ _ hx4, lk_refuse _ _, x, ts, m4, a4, t4, rfl, hL4.same sm5, ht4, bad (k4.trans (Kp.same sm5)) hd4 hex4 fun z => ?_⟩
                  rw [z, termV_tok.mpr rfl] at hn
                  cases hn
                · obtain ⟨tm', rfl, rfl⟩ := termV_some hl
                  have hok' : OkTm tm' := by
                    rw [hd4] at hW4
                    have := hW4.ok
                    cases tm' <;> exact this
                  refine ⟨tmP tm', tmP tm, dp_tm hp, dp_tm (sm5 _ _ hta4), shaped_tm hok', shaped_tm hok, ?_⟩
                  rw [eqv_tm]
                  refine ⟨_, rfl, ?_⟩
                  refine ite2 (fun hne => ?_) (fun hne => ?_)
                  · have hne : tm' ≠ tm := by simpa using hne
                    exact ⟨dx4, _, sm5 _ _ hx4, lk_refuse _ _, x, ts, m4, a4, _, rfl, hL4.same sm5, ht4, bad (k4.trans (Kp.same sm5)) hd4 hex4 fun z => hne (by cases tm <;> cases tm' <;> simp [tokOf] at z <;> rw [z])⟩
                  · have hne : tm' = tm := by simpa using hne
                    subst hne
                    refine ⟨dx4, _, sm5 _ _ hx4, lk_take_term _ _, x, ts, m4, a4, _, rfl, hL4.same sm5, ht4, (fun z => by rw [z] at hl; cases hl), fun l' hl' p' H6 k6 hL6 hp' => (hPv _ _ _).mpr ⟨m4 + 1, _, _, (k4.trans (Kp.same sm5)).trans k6, hL6, ?_, rfl, ?_⟩⟩
                    · rw [hd5]; rw [hd4] at hW4; exact hW4.tail (by cases tm' <;> nofun) (by cases tm' <;> nofun)
                    · rw [hex4, hd4, hd5, if_neg (by omega)]
                      show (if tokOf tm' = tokOf tm' then _ else _) = _
                      rw [if_pos rfl]
            · obtain ⟨m, u1, u2, kc, hLc, hWc, rfl, hex⟩ := (hPv _ _ _).mp p
              have e0 : (if axs.length = 0 then sepT at_.2 else tailT (at_.2.drop axs.length)) = [] := by
                by_cases hz : axs.length = 0
                · rw [if_pos hz, List.eq_nil_of_length_eq_zero (by omega : at_.2.length = 0)]; rfl
                · rw [if_neg hz, List.drop_eq_nil_of_le (by omega)]; rfl
              rw [e0] at hex
              obtain ⟨dxc, Lc, _, hxc, _⟩ := hLc.ex
              obtain ⟨a3, t3, r3, hd3⟩ := hWc.ne
              obtain ⟨ht3, hd4⟩ := drop_get hd3
              wtm_at "rd"
              refine ⟨dxc, _, hxc, lk_take _ _, x, ts, m, a3, t3, _, rfl, hLc, ht3, fun h41 H4 k4 hL4 => ?_, fun h41 => ?_⟩
              · have e41 := kindS_sg.mp h41
                subst e41
                wtm_at "rd"
                intro p hp
                have ex2 : expectAll (sepT at_.2 ++ [Tk.sg 41]) r2 = (r3, true) := by
                  rw [hex, hd3]
                  show (if Tk.sg 41 = Tk.sg 41 then _ else _) = _
                  rw [if_pos rfl]
                  rfl
                rw [ex2] at q3
                obtain ⟨dx4, L4, _, hx4, _⟩ := hL4.ex
                have sm := same_new hp (.tup [.str (S [115, 99, 97, 110]), .int (i : Int)])
                exact q3 _ _ (m + 1) ((kc.trans k4).trans (Kp.same sm)) (hL4.same sm) hd4 ⟨p, _, rfl, upd_same, _, _, rfl, rfl, _, _, rfl, rfl, rfl⟩
              · exact bad kc hd3 hex fun z => h41 (kindS_sg.mpr z)
          · have ex1 : expectAll (pend at_) ((a2, t2) :: r2) = ((a2, t2) :: r2, false) := by
              show (if t2 = Tk.sg 40 then _ else _) = _
              rw [if_neg fun z => h40 (kindS_sg.mpr z)]
            rw [ex1] at q2
            exact q2 a2 t2 r2 rfl
      · have h' : kindS t ≠ [119, 111, 114, 100] := h
        refine ⟨tyL upd_same, dx, _, hx1, lk_take _ _, x, ts, n, a, t, _, rfl, hL1, ht, fun z => absurd z h', fun _ => ?_⟩
        have e : readScan J (ts.drop n) = .err ((a, t) :: r) := by
          rw [hr0]
          cases t <;> first | rfl | exact absurd (kindS_wd.mpr ⟨_, rfl⟩) h'
        rw [e] at q1
        exact q1 a t r rfl
end
end K26

end
section
set_option linter.all false
set_option maxRecDepth 100000
set_option maxHeartbeats 4000000
namespace K26
open PySem PySem.Spec PyProof.Rows L2
open SX (S S_len S_cat S_inj)
open PySem.NumText
local macro_rules | `(tactic| wtm_at "rd") => `(tactic| try simp only [tSeq, tAsg, tVar, tC, gName, tRet, tRetN, tIfS, tNext, tDrop, tOp, tUn, rI0, rI, rU, tTest, tB, tAnd, tOr, tNot, tAndV, tOrV, tNotV, tIf, tCB, tCons, tNil, tTup, tLst, tCall, tSl, tPart, tNoPart, tBM, tBM0, gTup, gCons, gNil, gSub, tAug, ipI, rEq, rNe, sc_ii, sc_ss, sc_bb, sc_nn, sc_is, sc_si, sc_ns, sc_sn, sc_ni, sc_in, z0, z1, z2, z3, z4, z5, if_true, if_false, Bool.not_eq_true', decide_eq_false_iff_not, rIxS, rSlS, rSlL, tAugS, rGetL, cast1, rIxL, rIxT, rSetL, rAppend, rPop, rPopAt, rReverse, rCat, tYes, iRng1, iRng2, tMkBad, rIn, tFld, sFld, sFldAug, rAdd, tMeth, tMake, tCallS, tBadF, tM1, iList, iTup, iEnum, iEnumT, iStr, tBreak, C8.tCut, tFor_eq, tLc_eq, wipe_1,
  L2.start, List.map_cons, List.map_nil, List.cons_append, List.nil_append, List.append_nil, List.length_cons, List.length_nil, Nat.reduceAdd, Nat.reduceSub, List.replicate_succ, List.replicate_zero,
  List.getElem?_cons_succ, List.getElem?_cons_zero, List.set_cons_succ, List.set_cons_zero, Option.some.injEq, V.int.injEq, V.str.injEq, V.ref.injEq, V.bl.injEq, List.cons.injEq, and_assoc, and_true, true_and, exists_eq_left', exists_eq_left, exists_and_left, exists_and_right, exists_eq, decide_eq_true_eq, reduceCtorEq, false_and, and_false, exists_false, false_or, or_false, S_len, S_eq, k0, k1, k2, k3, k4, k5, k6, k7, k8, k9, k10, k11, k12, k13, k14, k15, k16, k17, k18, k19, k20, k21, k22, k23, k24, k25, k26, k27, k28, k29, k30, k31, k32, k33, k34, k35, k36, k37, k38, k39, k40, k41, k42, k43, k44, k45, k46, k47, k48, k49, k50, k51, k52, k53, Nat.zero_add])

section
theorem pe_mkLine {X : Cx} {j : Nat} {p pos : Pos} {e : Expr} {es : List Expr} {t : TA} (T : Txt X.K X.mg) (hr : Room j X.A) (hk : 6 ≤ j) (ha : PA X (e :: es) t) (hg : Gl X "Line" := by rfl)
    (he : starEach (e :: es) X.env = (false, eval e X.env) :: starEach es X.env := by rfl) (hpl : (backTo pos (starEach es X.env)).any (·.1) = false := by rfl) :
    PE X (.Call (.Name "Line" p) (e :: es) [] pos) (tMake (CL X.K) (spLineInit (CL X.K)) [] E0 t) :=
  pe_make T.mk_Line (ok_line_init (P := X.prog) (w := X.w) (base := X.base) T) (hr.mono hk) hg T.g_Line ((Classical.choose_spec T.f_Line_init).bindsN fun _ _ _ _ _ _ us hl => match us, hl with | [_, _, _], _ => rfl) .nil pass0 ha (by decide) he hpl
variable {P : Program} {w : World} {K : PySem.W.Frag} {mg : Str → Option Value} {base : Heap} {CB fI : Addr}
def spNode (K : PySem.W.Frag) (CB : Addr) (k : Nat) : Sp := fun vs H Q E => ∃ (x : Addr) (ts : List TT) (n : Nat) (jv : V) (J : Body), vs = [.ref x, jv] ∧ LineAt (CL K) H x ts n ∧ Wf (ts.drop n) ∧ Rep H (joinD J) jv ∧ JB J ∧ OkJ J ∧ opens (ts.drop n) < k ∧ Outc K CB x H ts Q E (readNode J k (ts.drop n))
theorem readNode_else {J : Body} {k a : Nat} {t : Tk} {r : List TT} (h1 : t ≠ .sg 33) (h2 : t ≠ .sg 91) : readNode J (k + 1) ((a, t) :: r) = readScan J ((a, t) :: r) := by
  unfold readNode
  split
  · rename_i h; cases h; exact absurd rfl h1
  · rename_i h; cases h; exact absurd rfl h2
  · rfl
theorem readMore_else {rn : List TT → Res} {m a : Nat} {acc : List Pl} {t : Tk} {r : List TT} (h1 : t ≠ .sg 42) (h2 : t ≠ .sg 93) : readMore rn (m + 1) acc ((a, t) :: r) = .err ((a, t) :: r) := by
  unfold readMore
  split
  · rename_i h; cases h; exact absurd rfl h1
  · rename_i h; cases h; exact absurd rfl h2
  · rfl
theorem LineAt.ins {C x : Addr} {H : Hp} {ts : List TT} {n : Nat} (h : LineAt C H x ts n) : ∃ dx L, H x = some (.ins C dx (LineF L n)) := let ⟨dx, L, _, h, _⟩ := h.ex; ⟨dx, L, h⟩
theorem KT.kpL {C x : Addr} {H H1 : Hp} {ts : List TT} {n : Nat} (k : Kp x H H1) (h : LineAt C H x ts n) : KT H H1 := let ⟨_, _, h⟩ := h.ins; KT.kp k h fun _ z => by cases z
theorem LineAt.ne_lst {C x p : Addr} {H : Hp} {ts : List TT} {n : Nat} {xs : List V} (h : LineAt C H x ts n) (hp : H p = some (.lst xs)) : p ≠ x := let ⟨_, _, h⟩ := h.ins; ne_of hp h lst_ins
/-- a list of plans is not the line's list -/
theorem LineAt.plans {C x p : Addr} {H : Hp} {ts : List TT} {n : Nat} {xs : List V} {acc : List Pl} {o : HO} (h : LineAt C H x ts n) (hn : n < ts.length) (hp : H p = some (.lst xs)) (hr : Reps H (plansD acc) xs) (ha : acc ≠ []) : LineAt C (upd H p o) x ts n := by
  obtain ⟨dx, L, ys, h1, h2, h3, h4⟩ := h.ex
  have hLp : L ≠ p := fun z => by
    subst z
    rw [h2] at hp
    cases hp
    cases acc with
    | nil => exact ha rfl
    | cons p0 acc =>
      obtain ⟨v, r, rfl, hv, _⟩ := hr
      cases h3 with
      | cons hh _ =>
        obtain ⟨b, rfl, hb⟩ := hh
        cases p0 with
        | scan i =>
          obtain ⟨a, zs, e, e1, q, _, rfl, rfl, _⟩ := hv
          cases e
          rw [hb] at e1
          cases e1
        | join ps =>
          obtain ⟨a, zs, e, e1, q, _, rfl, rfl, _⟩ := hv
          cases e
          rw [hb] at e1
          cases e1
        | proj y ps =>
          obtain ⟨a, zs, e, e1, q, _, rfl, rfl, _⟩ := hv
          cases e
          rw [hb] at e1
          cases e1
  have hpx := h.ne_lst hp
  refine ⟨dx, L, ys, by rw [upd_ne fun z => hpx z.symm]; exact h1, by rw [upd_ne hLp]; exact h2, Paired.mapP h3 fun _ _ ⟨a, e, h⟩ => ⟨a, e, ?_⟩, h4⟩
  rw [upd_ne (ne_of h hp fun z => by cases z)]
  exact h
abbrev sc_read_node_N : List Str := ["line", "join", "variable", "plans"]
abbrev sc_read_node_P : List Str := ["line", "join"]
abbrev sc_read_node_s : Scope := defScope s_read_node
theorem sc_read_node : FnScope sc_read_node_N sc_read_node_P sc_read_node_s := ⟨rfl, rfl, rfl, by decide +kernel, rfl, by decide +kernel, by decide +kernel⟩

theorem ok_read_node (T : Txt K mg) (B : BadTxt K mg CB fI) (BP : BadP P) : ∀ k, Cal P w K mg base (L2.CX P w) (k + 7) "read_node" (spNode K CB k)
| 0 => by
  refine calX T.f_read_node T.g_read_node sc_read_node (fun _ _ _ _ _ _ us hl => match us, hl with | [_, _], _ => rfl) (fun vs H Q E h => ?_) (fun cdv A outer s H vs Q E hr h => ?_)
  · obtain ⟨x, ts, n, jv, J, rfl, _⟩ := h; rfl
  · obtain ⟨x, ts, n, jv, J, rfl, _, _, _, _, _, h, _⟩ := h
    exact absurd h (Nat.not_lt_zero _)
| k + 1 => by
  have c_kind : Met P w K mg base CX0 1 (CL K) "kind" (spKind (CL K)) := ok_kind T
  have c_take : Met P w K mg base (L2.CX P w) 4 (CL K) "take" (spTake (CL K) CB) := ok_take T B BP
  have c_read_scan : Cal P w K mg base (L2.CX P w) 6 "read_scan" (spScan K CB) := ok_read_scan T B BP
  have c_read_node : Cal P w K mg base (L2.CX P w) (k + 7) "read_node" (spNode K CB k) := ok_read_node T B BP k
  refine calX T.f_read_node T.g_read_node sc_read_node (fun _ _ _ _ _ _ us hl => match us, hl with | [_, _], _ => rfl) (fun vs H Q E h => ?_) (fun cdv A outer s H vs Q E hr h => ?_)
  · obtain ⟨x, ts, n, jv, J, rfl, _⟩ := h; rfl
  · obtain ⟨x, ts, n, jv, J, rfl, hL, hW, hJ, hB, hO, ho, q⟩ := h
    obtain ⟨a, t, r, hr0⟩ := hW.ne
    obtain ⟨ht, hd1⟩ := drop_get hr0
    obtain ⟨dx, L, hx⟩ := hL.ins
    refine ⟨_, (pss_cons (ps_if (pt_cmpR op_eq (pe_mx0 c_kind hr (by omega) pass0 (pv 0)) pe_str (nomark _)) (pss_cons (ps_expr (pe_mx c_take hr (by omega) (passes_call (takes_of rfl rfl rfl rfl) (fun _ _ _ _ h => h)) (pv 0) (pa_cons pe_str pa_nil)))
      (pss_cons (ps_set (i := 2) sc_read_node.nd rfl (by first | exact Or.inl rfl | exact Or.inr rfl) (pe_mx c_take hr (by omega) (passes_call (takes_of rfl rfl rfl rfl) (fun _ _ _ _ h => h)) (pv 0) (pa_cons pe_str pa_nil)))
      (pss_one (ps_ret (pe_tup (pa_cons pe_str (pa_cons (pv 2) (pa_cons (pe_x c_read_node hr (by omega) (passes_call (takes_of rfl rfl rfl rfl) (fun _ _ _ _ h => h)) (pa_cons (pv 0) (pa_cons (pv 1) pa_nil))) pa_nil)))))))) pss_nil)
      (pss_cons (ps_if (pt_cmpR op_ne (pe_mx0 c_kind hr (by omega) pass0 (pv 0)) pe_str (nomark _)) (pss_one (ps_ret (pe_x c_read_scan hr (by omega) (passes_call (takes_of rfl rfl rfl rfl) (fun _ _ _ _ h => h)) (pa_cons (pv 0) (pa_cons (pv 1) pa_nil))))) pss_nil)
      (pss_cons (ps_expr (pe_mx c_take hr (by omega) (passes_call (takes_of rfl rfl rfl rfl) (fun _ _ _ _ h => h)) (pv 0) (pa_cons pe_str pa_nil)))
      (pss_cons (ps_set (i := 3) sc_read_node.nd rfl (by first | exact Or.inl rfl | exact Or.inr rfl) (pe_lst (pa_cons (pe_x c_read_node hr (by omega) (passes_call (takes_of rfl rfl rfl rfl) (fun _ _ _ _ h => h)) (pa_cons (pv 0) (pa_cons (pv 1) pa_nil))) pa_nil)))
      (pss_cons (ps_while (passes_of rfl) (PW.pt (pw_or (pt_cmpR op_lt (pe_callB call_len_seq (by rfl) T.b_len boot_len (pa_cons (pv 3) pa_nil)) pe_int (nomark _)) (pw_or1 (pt_cmpR op_eq (pe_mx0 c_kind hr (by omega) pass0 (pv 0)) pe_str (nomark _))))) (pss_cons (ps_expr (pe_mx c_take hr (by omega) (passes_call (takes_of rfl rfl rfl rfl) (fun _ _ _ _ h => h)) (pv 0) (pa_cons pe_str pa_nil)))
      (pss_one (ps_expr (pe_bm PySem.F.plainAttrs_list PySem.F.slot_list_append PySem.F.type_list_append mt_append (pv 3) (pa_cons (pe_x c_read_node hr (by omega) (passes_call (takes_of rfl rfl rfl rfl) (fun _ _ _ _ h => h)) (pa_cons (pv 0) (pa_cons (pv 1) pa_nil))) pa_nil))))))
      (pss_cons (ps_expr (pe_mx c_take hr (by omega) (passes_call (takes_of rfl rfl rfl rfl) (fun _ _ _ _ h => h)) (pv 0) (pa_cons pe_str pa_nil)))
      (pss_one (ps_ret (pe_tup (pa_cons pe_str (pa_cons (pe_callTy call_tuple_of (by rfl) T.b_tuple boot_tuple_ (pa_cons (pv 3) pa_nil)) pa_nil))))))))))), ?_⟩
    wtm_at "rd"
    refine ⟨dx, _, hx, lk_kind _ _, x, ts, n, a, t, rfl, hL, ht, ?_⟩
    wtm_at "rd"
    refine ite2 (fun h => ?_) (fun h => ?_)
    · have e33 := kindS_sg.mp h
      subst e33
      refine ⟨dx, _, hx, lk_take _ _, x, ts, n, a, _, _, rfl, hL, ht, fun _ H1 k1 hL1 => ?_, fun z => absurd rfl z⟩
      obtain ⟨dx1, L1, hx1⟩ := hL1.ins
      rw [hr0] at hW
      have hW1 := hW.tail nofun nofun
      obtain ⟨a2, t2, r2, rfl⟩ := hW1.ne
      obtain ⟨ht1, hd2⟩ := drop_get hd1
      rw [hr0] at q ho
      have ho1 : opens r2 < k := by
        have e : opens ((a, Tk.sg 33) :: (a2, t2) :: r2) = opens ((a2, t2) :: r2) + 1 := by simp [opens, isOpen]
        have := opens_suf (List.suffix_cons (a2, t2) r2)
        omega
      wtm_at "rd"
      refine ⟨dx1, _, hx1, lk_take _ _, x, ts, n + 1, a2, t2, _, rfl, hL1, ht1, fun hw H2 k2 hL2 => ?_, fun hw => ?_⟩
      · obtain ⟨wd, rfl⟩ := kindS_wd.mp hw
        wtm_at "rd"
        have kt2 : KT H H2 := (KT.kpL k1 hL).trans (KT.kpL k2 hL1)
        have q2 : Outc K CB x H2 ts Q E (match readNode J k r2 with
          | .ok p e => .ok (.proj wd p) e
          | .err e => .err e) := (show Outc K CB x H ts Q E _ from q).kp (k1.trans k2)
        refine ⟨x, ts, n + 1 + 1, jv, J, rfl, hL2, by rw [hd2]; exact hW1.tail nofun nofun, hJ.kt kt2 _ _, hB, hO, by rw [hd2]; exact ho1, ?_⟩
        rw [hd2]
        cases hx2 : readNode J k r2 with
        | err e =>
          rw [hx2] at q2
          exact q2
        | ok p e =>
          rw [hx2] at q2
          intro H3 v m k3 hL3 hdm hv
          wtm_at "rd"
          intro pp hpp
          have sm := same_new hpp (.tup [.str (S [112, 114, 111, 106, 101, 99, 116]), .str (S wd), v])
          exact q2 _ _ m (k3.trans (Kp.same sm)) (hL3.same sm) hdm ⟨pp, _, rfl, upd_same, _, _, rfl, rfl, _, _, rfl, rfl, _, _, rfl, hv.kt (KT.same sm) _ _, rfl⟩
      · have e : readNode J (k + 1) ((a, Tk.sg 33) :: (a2, t2) :: r2) = .err ((a2, t2) :: r2) := by
          cases t2 <;> first | rfl | exact absurd (kindS_wd.mpr ⟨_, rfl⟩) hw
        rw [e] at q
        exact (q a2 t2 r2 rfl).kp k1
    · have n33 : t ≠ .sg 33 := fun z => h (kindS_sg.mpr z)
      refine ⟨dx, _, hx, lk_kind _ _, x, ts, n, a, t, rfl, hL, ht, ?_⟩
      wtm_at "rd"
      refine ite2 (fun h => ?_) (fun h => ?_)
      · have n91 : t ≠ .sg 91 := fun z => h (kindS_sg.mpr z)
        refine ⟨x, ts, n, jv, J, rfl, hL, hW, hJ, hB, hO, ?_⟩
        rw [hr0] at q ⊢
        rw [readNode_else n33 n91] at q
        exact q
      · have e91 := kindS_sg.mp (Decidable.not_not.mp h)
        subst e91
        rw [hr0] at hW q ho
        have ho1 : opens r < k := by
          have e : opens ((a, Tk.sg 91) :: r) = opens r + 1 := by simp [opens, isOpen]
          omega
        have hW1 := hW.tail nofun nofun
        refine ⟨dx, _, hx, lk_take _ _, x, ts, n, a, _, _, rfl, hL, ht, fun _ H1 k1 hL1 => ?_, fun z => absurd rfl z⟩
        have kt1 := KT.kpL k1 hL
        have q1 : Outc K CB x H1 ts Q E (match readNode J k r with
          | .ok p e => readMore (readNode J k) (e.length + 1) [p] e
          | .err e => .err e) := (show Outc K CB x H ts Q E _ from q).kp k1
        clear q
        have sp := node_spec hO k r hW1 ho1
        refine ⟨x, ts, n + 1, jv, J, rfl, hL1, by rw [hd1]; exact hW1, hJ.kt kt1 _ _, hB, hO, by rw [hd1]; exact ho1, ?_⟩
        rw [hd1]
        cases hx1 : readNode J k r with
        | err e =>
          rw [hx1] at q1
          exact q1
        | ok p0 r0 =>
          rw [hx1] at q1 sp
          obtain ⟨hW2, hlt, hsuf, _⟩ := sp
          intro H2 v0 m0 k2 hL2 hm0 hv0
          have kt2 := kt1.trans (KT.kpL k2 hL1)
          wtm_at "rd"
          intro p hp
          have q2 := q1.kp k2
          have kn : Kp x H2 (upd H2 p (.lst [v0])) := Kp.same (same_new hp (.lst [v0]))
          have hL3 := hL2.same (same_new hp (.lst [v0]))
          have kt3 := kt2.trans (KT.same (same_new hp (.lst [v0])))
          have hv3 := hv0.kt (KT.same (same_new hp (.lst [v0]))) _ _
          have hp3 : upd H2 p (.lst [v0]) p = some (.lst [v0]) := upd_same
          generalize upd H2 p (.lst [v0]) = H3 at kn hL3 kt3 hv3 hp3 ⊢
          obtain ⟨W, hWd⟩ := opq3 fun m σ Hc => ∃ (acc : List Pl) (n' : Nat) (xs : List V), acc ≠ [] ∧ acc.length ≤ n' ∧ Kp x H2 Hc ∧ KT H Hc ∧ LineAt (CL K) Hc x ts n' ∧ Wf (ts.drop n') ∧ opens (ts.drop n') < k ∧ Hc p = some (.lst xs) ∧ Reps Hc (plansD acc) xs ∧ (ts.drop n').length < m ∧
            σ = [some (V.ref x), some jv, none, some (V.ref p)] ∧ Outc K CB x H2 ts Q E (readMore (readNode J k) m acc (ts.drop n'))
          have hlen0 : r0.length = ts.length - m0 := by rw [← hm0, List.length_drop]
          have hlen1 : r.length = ts.length - (n + 1) := by rw [← hd1, List.length_drop]
          refine ⟨W, ⟨_, (hWd _ _ _).mpr ⟨[p0], m0, [v0], by simp, by show 1 ≤ m0; omega, kn, kt3, hL3, by rw [hm0]; exact hW2, by rw [hm0]; exact Nat.lt_of_le_of_lt (opens_suf hsuf) ho1, hp3, ⟨_, _, rfl, hv3, rfl⟩, Nat.lt_succ_self _, rfl, by rw [hm0]; exact q2⟩⟩, fun m σ' Hc hw => ?_⟩
          obtain ⟨acc, n', xs, hacc, haln, kc, ktc, hLc, hWc, hoc, hpc, hrc, hlm, rfl, qc⟩ := (hWd _ _ _).mp hw
          have hpx := hLc.ne_lst hpc
          obtain ⟨dxc, Lc, hxc⟩ := hLc.ins
          obtain ⟨a3, t3, r3, hd3⟩ := hWc.ne
          obtain ⟨ht3, hd4⟩ := drop_get hd3
          have hxl : xs.length = acc.length := by rw [reps_len hrc, plansD_len]
          obtain ⟨m', rfl⟩ : ∃ m', m = m' + 1 := ⟨m - 1, by omega⟩
          have hn' : n' < ts.length := (List.getElem?_eq_some_iff.mp ht3).1
          have htl : ts.length ≤ 1000001 := let ⟨_, _, _, _, _, _, h⟩ := hLc.ex; h
          rw [hd3] at hWc hoc hlm qc
          have qk := qc.kp kc
          wtm_at "rd"
          refine ⟨xs, .inl (SqL.of hpc), ?_⟩
          apply shareC (c := acc.length < 2 ∨ t3 = .sg 42)
          · intro key
            refine ite2 (fun h2 => key (.inl (by omega))) (fun h2 => ?_)
            refine ⟨dxc, _, hxc, lk_kind _ _, x, ts, n', a3, t3, rfl, hLc, ht3, ?_⟩
            wtm_at "rd"
            refine ite2 (fun h3 => key (.inr (kindS_sg.mp h3))) (fun h3 => ?_)
            have n42 : t3 ≠ .sg 42 := fun z => h3 (kindS_sg.mpr z)
            refine ⟨dxc, _, hxc, lk_take _ _, x, ts, n', a3, t3, _, rfl, hLc, ht3, fun h93 H5 k5 hL5 => ?_, fun h93 => ?_⟩
            · have e93 := kindS_sg.mp h93
              subst e93
              wtm_at "rd"
              refine ⟨xs, .inl ⟨SqL.of (k5 _ _ hpx hpc), fun l hl pp hpp => ?_⟩⟩
              have qd : Outc K CB x Hc ts Q E (if acc.length < 2 then .err ((a3, Tk.sg 93) :: r3) else .ok (.join acc) r3) := qk
              rw [if_neg (by omega)] at qd
              have sl := same_new hl (.tup xs)
              have sp' := same_new hpp (.tup [.str (S [106, 111, 105, 110]), .ref l])
              refine qd _ _ (n' + 1) (k5.trans (Kp.same (sl.trans sp'))) (hL5.same (sl.trans sp')) hd4 ⟨pp, _, rfl, upd_same, _, _, rfl, rfl, _, _, rfl, ⟨l, xs, rfl, sp' _ _ upd_same, ?_⟩, rfl⟩
              exact hrc.kt ((KT.kpL k5 hLc).trans (KT.same (sl.trans sp'))) _ _
            · have n93 : t3 ≠ .sg 93 := fun z => h93 (kindS_sg.mpr z)
              rw [readMore_else n42 n93] at qk
              exact qk a3 t3 r3 rfl
          · intro hcond
            refine ⟨fun σ' H' => ∃ m'', m'' < m' + 1 ∧ W m'' σ' H', fun σ' H' z => z, ?_⟩
            refine ⟨dxc, _, hxc, lk_take _ _, x, ts, n', a3, t3, _, rfl, hLc, ht3, fun h42 H5 k5 hL5 => ?_, fun h42 => ?_⟩
            · have e42 := kindS_sg.mp h42
              subst e42
              have hWr := hWc.tail nofun nofun
              have hor := Nat.lt_of_le_of_lt (opens_suf (List.suffix_cons (a3, Tk.sg 42) r3)) hoc
              have kt5 := ktc.trans (KT.kpL k5 hLc)
              have hp5 := k5 _ _ hpx hpc
              have hlen3 : r3.length = ts.length - (n' + 1) := by rw [← hd4, List.length_drop]
              have sp := node_spec hO k r3 hWr hor
              have q0 : Outc K CB x H2 ts Q E (match readNode J k r3 with
                | .ok p r'' => readMore (readNode J k) m' (acc ++ [p]) r''
                | .err e => .err e) := qc
              refine ⟨tyL hp5, x, ts, n' + 1, jv, J, rfl, hL5, by rw [hd4]; exact hWr, hJ.kt kt5 _ _, hB, hO, by rw [hd4]; exact hor, ?_⟩
              rw [hd4]
              cases hx5 : readNode J k r3 with
              | err e =>
                rw [hx5] at q0
                exact q0.kp (kc.trans k5)
              | ok pl r5 =>
                rw [hx5] at q0 sp
                obtain ⟨hW6, hlt6, hsuf6, _⟩ := sp
                intro H6 v6 m6 k6 hL6 hm6 hv6
                have hp6 := k6 _ _ hpx hp5
                have kt6 := kt5.trans (KT.kpL k6 hL5)
                have kt7 : KT H6 (upd H6 p (.lst (xs ++ [v6]))) := (KT.refl _).upd hp6 fun _ z => by cases z
                have hlen6 : r5.length = ts.length - m6 := by rw [← hm6, List.length_drop]
                have k7 : Kp x H2 (upd H6 p (.lst (xs ++ [v6]))) := fun b o hb hbo => by
                  rw [upd_ne (ne_of_none hbo hp)]
                  exact ((kc.trans k5).trans k6) b o hb hbo
                have hl3 : (List.length ((a3, Tk.sg 42) :: r3)) = r3.length + 1 := rfl
                have hm6' : m6 ≤ ts.length := by
                  by_cases hz : m6 ≤ ts.length
                  · exact hz
                  · have : r5 = [] := by rw [← hm6]; exact List.drop_eq_nil_of_le (by omega)
                    obtain ⟨_, _, _, e⟩ := hW6.ne
                    rw [this] at e; cases e
                refine ⟨xs, hp6, lt_line (by omega), m', Nat.lt_succ_self _, (hWd _ _ _).mpr ⟨acc ++ [pl], m6, xs ++ [v6], by simp, ?_, k7, kt6.trans kt7, ?_, by rw [hm6]; exact hW6, by rw [hm6]; exact Nat.lt_of_le_of_lt (opens_suf hsuf6) hor, upd_same, ?_, ?_, rfl, ?_⟩⟩
                · rw [List.length_append]; show acc.length + 1 ≤ m6; omega
                · refine hL6.plans ?_ hp6 (hrc.kt ((KT.kpL k5 hLc).trans (KT.kpL k6 hL5)) _ _) hacc
                  have hz := hlen6
                  obtain ⟨_, _, _, e⟩ := hW6.ne
                  rw [e, List.length_cons] at hz
                  omega
                · rw [plansD_app]
                  exact reps_app (hrc.kt (((KT.kpL k5 hLc).trans (KT.kpL k6 hL5)).trans kt7) _ _) ⟨_, _, rfl, hv6.kt kt7 _ _, rfl⟩
                · rw [hm6]; omega
                · rw [hm6]; exact q0
            · have n42 : t3 ≠ .sg 42 := fun z => h42 (kindS_sg.mpr z)
              have hlt : acc.length < 2 := hcond.resolve_right n42
              by_cases h93 : t3 = .sg 93
              · subst h93
                have qd : Outc K CB x Hc ts Q E (if acc.length < 2 then .err ((a3, Tk.sg 93) :: r3) else .ok (.join acc) r3) := qk
                rw [if_pos hlt] at qd
                exact qd a3 _ r3 rfl
              · rw [readMore_else n42 h93] at qk
                exact qk a3 t3 r3 rfl
/-! ### read_plan -/
def OutP (CB : Addr) (H : Hp) (Q : VK) (E : XK) : Except (List TT) Pl → Prop
  | .ok p => ∀ H' v, Same H H' → Rep H' (planD p) v → Q v H'
  | .error r => ∀ a t r', r = (a, t) :: r' → ∀ d H', Same H H' → H' d = some (.xd (xdF (.int 0) (.int (a : Int)))) → E (.ref CB) (some d) H'
def spPlan (CB : Addr) (N : Nat) : Sp := fun vs H Q E => ∃ (jv : V) (l : List Nat) (J : Body), vs = [jv, .str (S l)] ∧ Rep H (joinD J) jv ∧ JB J ∧ OkJ J ∧ l.length ≤ 1000000 ∧ DigOk l ∧ opens (toks 0 l) < N ∧ OutP CB H Q E (whole J N (toks 0 l))
theorem Kp.same_of {x : Addr} {H H' : Hp} (k : Kp x H H') (hx : H x = none) : Same H H' := fun b u q => k b u (ne_of_none q hx) q
abbrev sc_read_plan_N : List Str := ["join", "text", "line", "plan"]
abbrev sc_read_plan_P : List Str := ["join", "text"]
abbrev sc_read_plan_s : Scope := defScope s_read_plan
theorem sc_read_plan : FnScope sc_read_plan_N sc_read_plan_P sc_read_plan_s := ⟨rfl, rfl, rfl, by decide +kernel, rfl, by decide +kernel, by decide +kernel⟩

theorem ok_read_plan (T : Txt K mg) (B : BadTxt K mg CB fI) (BP : BadP P) (N : Nat) : Cal P w K mg base (L2.CX P w) (N + 8) "read_plan" (spPlan CB N) := by
  have c_take : Met P w K mg base (L2.CX P w) 4 (CL K) "take" (spTake (CL K) CB) := ok_take T B BP
  have c_read_node : Cal P w K mg base (L2.CX P w) (N + 7) "read_node" (spNode K CB N) := ok_read_node T B BP N
  refine calX T.f_read_plan T.g_read_plan sc_read_plan (fun _ _ _ _ _ _ us hl => match us, hl with | [_, _], _ => rfl) (fun vs H Q E h => ?_) (fun cdv A outer s H vs Q E hr h => ?_)
  · obtain ⟨jv, l, J, rfl, _⟩ := h; rfl
  · obtain ⟨jv, l, J, rfl, hJ, hB, hO, hl, hk, ho, q⟩ := h
    refine ⟨_, (pss_cons (ps_set (i := 2) sc_read_plan.nd rfl (by first | exact Or.inl rfl | exact Or.inr rfl) (pe_mkLine T hr (by omega) (pa_cons (pv 1) (pa_cons pe_int pa_nil))))
      (pss_cons (ps_set (i := 3) sc_read_plan.nd rfl (by first | exact Or.inl rfl | exact Or.inr rfl) (pe_x c_read_node hr (by omega) (passes_call (takes_of rfl rfl rfl rfl) (fun _ _ _ _ h => h)) (pa_cons (pv 2) (pa_cons (pv 0) pa_nil))))
      (pss_cons (ps_expr (pe_mx c_take hr (by omega) (passes_call (takes_of rfl rfl rfl rfl) (fun _ _ _ _ h => h)) (pv 2) (pa_cons pe_str pa_nil)))
      (pss_one (ps_ret (pv 3)))))), ?_⟩
    wtm_at "rd"
    intro x dx hx hdx hne
    have s0 : Same H (upd (upd H dx (.own x)) x (.ins (CL K) dx [])) := fun b u hb => by
      rw [upd_ne (ne_of_none hb hx), upd_ne (ne_of_none hb hdx)]; exact hb
    refine ⟨x, dx, l, rfl, upd_same, hl, hk, fun H1 k1 hL1 => ⟨rfl, ?_⟩⟩
    have k01 : Kp x H H1 := (Kp.same s0).trans k1
    have hW := wf_toks l.length 0 l (Nat.le_refl _)
    have sp := node_spec hO N _ hW ho
    unfold whole at q
    have kt1 : KT H H1 := KT.same (k01.same_of hx)
    wtm_at "rd"
    refine ⟨x, _, 0, jv, J, rfl, hL1, hW, hJ.kt kt1 _ _, hB, hO, ho, ?_⟩
    show Outc _ _ _ _ _ _ _ (readNode J N (toks 0 l))
    cases hr : readNode J N (toks 0 l) with
    | err e =>
      rw [hr] at q
      exact fun a t r' he d H' k' hd => q a t r' he d H' ((k01.trans k').same_of hx) hd
    | ok p r =>
      rw [hr] at q sp
      obtain ⟨hW2, _⟩ := sp
      intro H2 v m k2 hL2 hm hv
      obtain ⟨a, t, r', rfl⟩ := hW2.ne
      obtain ⟨ht, hd1⟩ := drop_get hm
      obtain ⟨dx2, L2', hx2⟩ := hL2.ins
      wtm_at "rd"
      refine ⟨dx2, _, hx2, lk_take _ _, x, _, m, a, t, _, rfl, hL2, ht, fun hf H3 k3 hL3 => ?_, fun hf => ?_⟩
      · have ef := kindS_fin.mp hf
        subst ef
        have er : r' = [] := by
          cases hW2 with
          | fin => rfl
          | cons _ h _ _ => exact absurd rfl h
        subst er
        wtm_at "rd"
        exact q H3 v ((k01.trans (k2.trans k3)).same_of hx) (hv.kt (KT.kpL k3 hL2) _ _)
      · have hf' : t ≠ .fin := fun z => hf (kindS_fin.mpr z)
        have q' : OutP CB H Q E (.error ((a, t) :: r')) := by cases t <;> first | exact q | exact absurd rfl hf'
        exact fun d H' k' hd => q' a t r' rfl d H' ((k01.trans (k2.trans k')).same_of hx) hd
end
end K26

end
section
set_option linter.all false
set_option maxRecDepth 100000
set_option maxHeartbeats 4000000
namespace K26
open PySem PySem.Spec PyProof.Rows L2
open SX (S S_len S_cat S_inj)
open PySem.NumText
local macro_rules | `(tactic| wtm_at "rd") => `(tactic| try simp only [tSeq, tAsg, tVar, tC, gName, tRet, tRetN, tIfS, tNext, tDrop, tOp, tUn, rI0, rI, rU, tTest, tB, tAnd, tOr, tNot, tAndV, tOrV, tNotV, tIf, tCB, tCons, tNil, tTup, tLst, tCall, tSl, tPart, tNoPart, tBM, tBM0, gTup, gCons, gNil, gSub, tAug, ipI, rEq, rNe, sc_ii, sc_ss, sc_bb, sc_nn, sc_is, sc_si, sc_ns, sc_sn, sc_ni, sc_in, z0, z1, z2, z3, z4, z5, if_true, if_false, Bool.not_eq_true', decide_eq_false_iff_not, rIxS, rSlS, rSlL, tAugS, rGetL, cast1, rIxL, rIxT, rSetL, rAppend, rPop, rPopAt, rReverse, rCat, tYes, iRng1, iRng2, tMkBad, rIn, tFld, sFld, sFldAug, rAdd, tMeth, tMake, tCallS, tBadF, tM1, iList, iTup, iEnum, iEnumT, iStr, tBreak, C8.tCut, tFor_eq, tLc_eq, wipe_1,
  L2.start, List.map_cons, List.map_nil, List.cons_append, List.nil_append, List.append_nil, List.length_cons, List.length_nil, Nat.reduceAdd, Nat.reduceSub, List.replicate_succ, List.replicate_zero,
  List.getElem?_cons_succ, List.getElem?_cons_zero, List.set_cons_succ, List.set_cons_zero, Option.some.injEq, V.int.injEq, V.str.injEq, V.ref.injEq, V.bl.injEq, List.cons.injEq, and_assoc, and_true, true_and, exists_eq_left', exists_eq_left, exists_and_left, exists_and_right, exists_eq, decide_eq_true_eq, reduceCtorEq, false_and, and_false, exists_false, false_or, or_false, S_len, S_eq, k0, k1, k2, k3, k4, k5, k6, k7, k8, k9, k10, k11, k12, k13, k14, k15, k16, k17, k18, k19, k20, k21, k22, k23, k24, k25, k26, k27, k28, k29, k30, k31, k32, k33, k34, k35, k36, k37, k38, k39, k40, k41, k42, k43, k44, k45, k46, k47, k48, k49, k50, k51, k52, k53, Nat.zero_add])

section
theorem kx_isi {X : Cx} {K : PySem.W.Frag} (h : X.K = K) : CallR X (.builtin "isinstance") (rIsi K) := h ▸ call_isi
theorem kx_isiT {X : Cx} {K : PySem.W.Frag} (h : X.K = K) : CallR X (.builtin "isinstance") (rIsiT K) := h ▸ call_isiT
theorem pe_tyN {X : Cx} {x : Str} {n : String} {pos : Pos} (hm : X.mg x = none) (hv : bootBuiltins x = some (.type n)) (hg : Gl X x := by rfl) (hn : x ≠ "__name__" := by decide) (hd : (x == ("__debug__" : Str)) = false := by decide) : PE X (.Name x pos) (tC (.ty n)) :=
  pe_bltn hg hm hv rfl hn hd
theorem boot_bool_ : bootBuiltins "bool" = some (.type "bool") := by decide +kernel
theorem str_int (i : Int) : (Str.ofString (toString i)) = S (intL i) := by
  unfold intL
  by_cases h : i < 0
  · rw [if_pos h]
    obtain ⟨n, rfl⟩ : ∃ n : Nat, i = Int.negSucc n := by
      cases i with
      | ofNat n => exact absurd h (by simp)
      | negSucc n => exact ⟨n, rfl⟩
    have e : toString (Int.negSucc n) = "-" ++ toString (((n + 1 : Nat)) : Int) := rfl
    rw [e, Str.ofString_eq_toList, String.toList_append, List.map_append]
    have e2 := SX.num_S (n + 1)
    rw [Str.ofString_eq_toList] at e2
    unfold S at e2 ⊢
    injection e2 with e2
    have e3 : ((toString (((n + 1 : Nat)) : Int)).toList.map Char.toNat) = TL.numL (n + 1) := by simpa using e2
    rw [e3]
    rfl
  · rw [if_neg h]
    obtain ⟨n, rfl⟩ : ∃ n : Nat, i = n := ⟨i.toNat, by omega⟩
    exact SX.num_S n
variable {P : Program} {w : World} {K : PySem.W.Frag} {mg : Str → Option Value} {base : Heap} {CB fI : Addr}
theorem isi_ok {H : Hp} {x : V} {tn c : String} {b : Bool} {Q : VK} (h : TyX K H x (.type tn)) (e : kitB tn c = some b) (q : Q (.bl b) H) : rIsi K [x, .ty c] H Q := ⟨x, .ty c, _, _, b, rfl, .ty c, h, kit_ty e, q⟩
theorem kb_ss : kitB "str" "str" = some true := by decide +kernel
theorem kb_is : kitB "int" "str" = some false := by decide +kernel
/-- the value within a term, and its bounds -/
def vV : Tm → V
  | .var w => .str (S w)
  | .int i => .int i
  | .word w => .str (S w)
def TmB (t : Tm) : Prop := OkTm t ∧ (txt (tokOf t)).length ≤ 1000 ∧ ∀ i, t = .int i → i.natAbs.log2 < 1920
def spVT : Sp := fun vs H Q _ => ∃ t : Tm, (∀ x, t ≠ .var x) ∧ vs = [vV t] ∧ TmB t ∧ Q (.str (S (txt (tokOf t)))) H
abbrev sc_l_value_text_N : List Str := ["_law_value_here"]
abbrev sc_l_value_text_P : List Str := ["_law_value_here"]
abbrev sc_l_value_text_s : Scope := defScope s_l_value_text
theorem sc_l_value_text : FnScope sc_l_value_text_N sc_l_value_text_P sc_l_value_text_s := ⟨rfl, rfl, rfl, by decide +kernel, rfl, by decide +kernel, by decide +kernel⟩

theorem ok_value_text (T : Txt K mg) : Cal P w K mg base CX0 1 "_law_value_text" spVT := by
  refine cal0 T.f_l_value_text T.g_l_value_text sc_l_value_text (fun _ _ _ _ _ _ us hl => match us, hl with | [_], _ => rfl) (fun vs H Q E h => ?_) (fun cdv A outer s H vs Q E hr h => ?_)
  · obtain ⟨t, _, rfl, _⟩ := h; rfl
  · obtain ⟨t, hv, rfl, hb, q⟩ := h
    refine ⟨_, (pss_cons (ps_if (pt_val (pe_callB (kx_isi (K := K) rfl) (by rfl) T.b_isinstance boot_isinstance_ (pa_cons (pv 0) (pa_cons (pe_tyN T.b_str boot_str_) pa_nil)))) (pss_one (ps_ret (pe_op op_add_str (pe_op op_add_str pe_str (pv 0)) pe_str))) pss_nil)
      (pss_one (ps_ret (pe_callTy call_str_int (by rfl) T.b_str boot_str_ (pa_cons (pv 0) pa_nil))))), ?_⟩
    wtm_at "rd"
    cases t with
    | var x => exact absurd rfl (hv x)
    | word u =>
      have hl : u.length ≤ 1000 := by have := hb.2.1; simp [tokOf, txt] at this; omega
      refine isi_ok (.base (.str _)) kb_ss ⟨_, rfl, ?_⟩
      rw [if_pos rfl]
      refine ⟨_, rfl, ?_⟩
      rw [S_cat, S_cat]
      exact ⟨le_line (by rw [S_len]; omega), le_line (by rw [S_len]; simp; omega), q⟩
    | int i =>
      refine isi_ok (.base (.int _)) kb_is ⟨_, rfl, ?_⟩
      rw [if_neg (by decide)]
      refine ⟨_, rfl, hb.2.2 i rfl, ?_⟩
      rw [str_int]
      exact q
def spTT : Sp := fun vs H Q _ => ∃ (t : Tm) (v : V), vs = [v] ∧ Rep H (tmD t) v ∧ TmB t ∧ Q (.str (S (txt (tokOf t)))) H
abbrev sc_l_term_text_N : List Str := ["_law_term_here"]
abbrev sc_l_term_text_P : List Str := ["_law_term_here"]
abbrev sc_l_term_text_s : Scope := defScope s_l_term_text
theorem sc_l_term_text : FnScope sc_l_term_text_N sc_l_term_text_P sc_l_term_text_s := ⟨rfl, rfl, rfl, by decide +kernel, rfl, by decide +kernel, by decide +kernel⟩

theorem ok_term_text (T : Txt K mg) : Cal P w K mg base CX0 2 "_law_term_text" spTT := by
  have c_l_value_text : Cal P w K mg base CX0 1 "_law_value_text" spVT := ok_value_text T
  refine cal0 T.f_l_term_text T.g_l_term_text sc_l_term_text (fun _ _ _ _ _ _ us hl => match us, hl with | [_], _ => rfl) (fun vs H Q E h => ?_) (fun cdv A outer s H vs Q E hr h => ?_)
  · obtain ⟨t, v, rfl, _⟩ := h; rfl
  · obtain ⟨t, v, rfl, hv, hb, q⟩ := h
    obtain ⟨a, rfl, ha⟩ := rep_tm hv
    refine ⟨_, (pss_cons (ps_if (pt_cmpR op_eq (pe_ix ix_tup (pv 0) pe_int (fun _ _ => rfl)) pe_str (nomark _)) (pss_one (ps_ret (pe_ix ix_tup (pv 0) pe_int (fun _ _ => rfl)))) pss_nil)
      (pss_one (ps_ret (pe_c c_l_value_text hr (pa_cons (pe_ix ix_tup (pv 0) pe_int (fun _ _ => rfl)) pa_nil))))), ?_⟩
    wtm_at "rd"
    cases t with
    | var u =>
      refine ⟨_, SqT.of ha, _, rfl, ?_⟩
      wtm_at "rd"
      exact ⟨_, SqT.of ha, _, rfl, q⟩
    | word u =>
      refine ⟨_, SqT.of ha, _, rfl, ?_⟩
      wtm_at "rd"
      exact ⟨_, SqT.of ha, _, rfl, .word u, nofun, rfl, hb, q⟩
    | int i =>
      refine ⟨_, SqT.of ha, _, rfl, ?_⟩
      wtm_at "rd"
      exact ⟨_, SqT.of ha, _, rfl, .int i, nofun, rfl, hb, q⟩
/-! ### _law_between -/
def btw (s : List Nat) : List (List Nat) → List (List Nat)
  | [] => []
  | u :: r => u :: r.flatMap fun v => [s, v]
theorem btw_snoc (s u : List Nat) (l : List (List Nat)) : btw s (l ++ [u]) = btw s l ++ (if l = [] then [u] else [s, u]) := by
  cases l with
  | nil => rfl
  | cons a r => simp [btw]
theorem btw_len (s : List Nat) (l : List (List Nat)) : (btw s l).length ≤ 2 * l.length := by
  cases l with
  | nil => simp [btw]
  | cons a r =>
    have : (r.flatMap fun v => [s, v]).length = 2 * r.length := by
      induction r with
      | nil => rfl
      | cons b q ih => rw [List.flatMap_cons, List.length_append, ih]; simp; omega
    simp [btw, this]; omega
abbrev sL (l : List (List Nat)) : List V := l.map fun u => V.str (S u)
def spBtw : Sp := fun vs H Q _ => ∃ (p : Addr) (l : List (List Nat)) (s : List Nat), vs = [.ref p, .str (S s)] ∧ H p = some (.lst (sL l)) ∧ l.length ≤ 100000 ∧ ∀ p', H p' = none → Q (.ref p') (upd H p' (.lst (sL (btw s l))))
abbrev sc_l_between_N : List Str := ["_law_texts", "_law_sign", "_law_found", "_law_k"]
abbrev sc_l_between_P : List Str := ["_law_texts", "_law_sign"]
abbrev sc_l_between_s : Scope := defScope s_l_between
theorem sc_l_between : FnScope sc_l_between_N sc_l_between_P sc_l_between_s := ⟨rfl, rfl, rfl, by decide +kernel, rfl, by decide +kernel, by decide +kernel⟩

theorem ok_between (T : Txt K mg) : Cal P w K mg base CX0 1 "_law_between" spBtw := by
  refine cal0 T.f_l_between T.g_l_between sc_l_between (fun _ _ _ _ _ _ us hl => match us, hl with | [_, _], _ => rfl) (fun vs H Q E h => ?_) (fun cdv A outer s H vs Q E hr h => ?_)
  · obtain ⟨p, l, s, rfl, _⟩ := h; rfl
  · obtain ⟨p, l, s, rfl, hp, hl, q⟩ := h
    refine ⟨_, (pss_cons (ps_set (i := 2) sc_l_between.nd rfl (by first | exact Or.inl rfl | exact Or.inr rfl) (pe_lst pa_nil))
      (pss_cons (ps_for PassesOwn.never rfl (pi_range1 (by rfl) T.b_range (pa_cons (pe_callB call_len_seq (by rfl) T.b_len boot_len (pa_cons (pv 0) pa_nil)) pa_nil)) (pg_name (i := 3) sc_l_between.nd rfl (by first | exact Or.inl rfl | exact Or.inr rfl)) (pss_cons (ps_if (pt_cmpR op_gt (pv 3) pe_int (nomark _)) (pss_one (ps_expr (pe_bm PySem.F.plainAttrs_list PySem.F.slot_list_append PySem.F.type_list_append mt_append (pv 2) (pa_cons (pv 1) pa_nil)))) pss_nil)
      (pss_one (ps_expr (pe_bm PySem.F.plainAttrs_list PySem.F.slot_list_append PySem.F.type_list_append mt_append (pv 2) (pa_cons (pe_ix ix_list (pv 0) (pv 3) (fun _ _ => rfl)) pa_nil))))))
      (pss_one (ps_ret (pv 2))))), ?_⟩
    wtm_at "rd"
    intro p' hp'
    wtm_at "rd"
    have hpp : p ≠ p' := ne_of_none hp hp'
    have hpk : ∀ {o}, upd H p' o p = some (.lst (sL l)) := fun {o} => by rw [upd_ne hpp]; exact hp
    have hz : (sL l).length = l.length := List.length_map _
    refine ⟨_, .inl (SqL.of hpk), by omega, by omega, ?_⟩
    rw [Int.toNat_natCast, hz]
    refine forb (walk_range (lo := 0) (n := l.length)) (fun i σ H' => ∃ u, H' = upd H p' (.lst (sL (btw s (l.take i)))) ∧ σ = [some (.ref p), some (.str (S s)), some (.ref p'), u]) ⟨none, rfl, rfl⟩ (fun _ _ _ _ => trivial) (fun i x σ H1 H2 hi pv y => ?_) (fun σ H1 pv => ?_)
    · obtain ⟨u, rfl, rfl⟩ := pv
      obtain ⟨rfl, rfl⟩ := y
      have hat : (sL l)[i]? = some (.str (S l[i])) := by rw [List.getElem?_map, List.getElem?_eq_getElem hi]; rfl
      have hbl : (btw s (l.take i)).length ≤ 2 * i := by
        have := btw_len s (l.take i)
        rw [List.length_take, Nat.min_eq_left (by omega)] at this
        exact this
      have hnext : sL (btw s (l.take (i + 1))) = sL (btw s (l.take i)) ++ (if l.take i = [] then [.str (S l[i])] else [.str (S s), .str (S l[i])]) := by
        rw [← List.take_append_getElem hi, btw_snoc]
        by_cases h : l.take i = []
        · rw [if_pos h, if_pos h]; simp
        · rw [if_neg h, if_neg h]; simp
      wtm_at "rd"
      rw [Int.zero_add]
      refine ite2 (fun h => ?_) (fun h => ?_)
      · have h0 : l.take i ≠ [] := fun z => by
          have := congrArg List.length z
          rw [List.length_take, Nat.min_eq_left (by omega)] at this
          simp at this; omega
        rw [if_neg h0] at hnext
        refine ⟨tyL upd_same, _, upd_same, lt_line (by rw [List.length_map]; omega), tyL upd_same, ?_⟩
        wtm_at "rd"
        refine ⟨_, SqL.of (by rw [upd_ne hpp, hpk]), _, atI_nat hat, _, upd_same, lt_line (by simp; omega), ?_, _, rfl⟩
        rw [upd_upd, upd_upd, hnext]
        simp
      · have h0 : l.take i = [] := by
          have : i = 0 := by omega
          subst this; rfl
        rw [if_pos h0] at hnext
        refine ⟨tyL upd_same, _, SqL.of hpk, _, atI_nat hat, _, upd_same, lt_line (by rw [List.length_map]; omega), ?_, _, rfl⟩
        rw [upd_upd, hnext]
    · obtain ⟨u, rfl, rfl⟩ := pv
      wtm_at "rd"
      rw [List.take_length]
      exact q p' hp'
/-! ### _law_atom_texts -/
def atT (a : Atom) : List (List Nat) := a.1 :: (pend a).map txt
theorem sepT_btw (l : List Tm) : (sepT l).map txt = btw [44] (l.map fun t => txt (tokOf t)) := by
  cases l with
  | nil => rfl
  | cons t r =>
    rw [sepT_cons]
    show txt (tokOf t) :: (tailT r).map txt = _ :: _
    congr 1
    induction r with
    | nil => rfl
    | cons u q ih => show _ :: _ :: (tailT q).map txt = _; rw [ih]; rfl
theorem atT_eq (a : Atom) : atT a = [a.1, [40]] ++ btw [44] (a.2.map fun t => txt (tokOf t)) ++ [[41]] := by
  unfold atT pend
  rw [List.map_cons, List.map_append, sepT_btw]
  rfl
def AtB (a : Atom) : Prop := a.2.length ≤ 1000 ∧ ∀ t ∈ a.2, TmB t
def spAT : Sp := fun vs H Q _ => ∃ (a : Atom) (v : V), vs = [v] ∧ Rep H (atomD a) v ∧ AtB a ∧ ∀ p H', Same H H' → H p = none → H' p = some (.lst (sL (atT a))) → Q (.ref p) H'
abbrev sc_l_atom_texts_N : List Str := ["_law_atom_here", "_law_term_here"]
abbrev sc_l_atom_texts_P : List Str := ["_law_atom_here"]
abbrev sc_l_atom_texts_s : Scope := defScope s_l_atom_texts
theorem sc_l_atom_texts : FnScope sc_l_atom_texts_N sc_l_atom_texts_P sc_l_atom_texts_s := ⟨rfl, rfl, rfl, by decide +kernel, rfl, by decide +kernel, by decide +kernel⟩

theorem ok_atom_texts (T : Txt K mg) : Cal P w K mg base CX0 3 "_law_atom_texts" spAT := by
  have c_l_term_text : Cal P w K mg base CX0 2 "_law_term_text" spTT := ok_term_text T
  have c_l_between : Cal P w K mg base CX0 1 "_law_between" spBtw := ok_between T
  refine cal0 T.f_l_atom_texts T.g_l_atom_texts sc_l_atom_texts (fun _ _ _ _ _ _ us hl => match us, hl with | [_], _ => rfl) (fun vs H Q E h => ?_) (fun cdv A outer s H vs Q E hr h => ?_)
  · obtain ⟨a, v, rfl, _⟩ := h; rfl
  · obtain ⟨a, v, rfl, hv, hb, q⟩ := h
    obtain ⟨ap, aq, axs, rfl, h1, h2, h3⟩ := rep_atom hv
    have hal : axs.length = a.2.length := by rw [reps_len h3, List.length_map]
    refine ⟨_, (pss_one (ps_ret (pe_op op_cat (pe_op op_cat (pe_lst (pa_cons (pe_ix ix_tup (pv 0) pe_int (fun _ _ => rfl)) (pa_cons pe_str pa_nil))) (pe_c c_l_between hr (pa_cons (pe_lc (own := [("_law_term_here", 1)]) (g := gName 1) (tt := tYes) rfl sc_l_atom_texts.nd (pi_tup (pe_ix ix_tup (pv 0) pe_int (fun _ _ => rfl))) (blkOk_by (own := [("_law_term_here", 1)]) (N := sc_l_atom_texts_N) (sc := sc_l_atom_texts_s) (by decide +kernel)) (fun _ _ _ _ _ => pg_name (i := 1) sc_l_atom_texts.nd rfl (Or.inl rfl)) (fun _ _ _ _ _ => pts_nil) (fun _ _ _ _ _ => (pe_c c_l_term_text hr (pa_cons (pv 1) pa_nil)))) (pa_cons pe_str pa_nil)))) (pe_lst (pa_cons pe_str pa_nil))))), ?_⟩
    wtm_at "rd"
    refine ⟨_, SqT.of h1, _, rfl, fun p0 hp0 => ?_⟩
    wtm_at "rd"
    have s0 : Same H (upd H p0 (.lst [.str (S a.1), .str (S [40])])) := same_new hp0 _
    refine ⟨_, SqT.of (s0 _ _ h1), _, rfl, aq, rfl, ⟨_, SqT.of (s0 _ _ h2)⟩, ?_⟩
    have hp0' : upd H p0 (.lst [.str (S a.1), .str (S [40])]) p0 = some (.lst [.str (S a.1), .str (S [40])]) := upd_same
    generalize upd H p0 (.lst [.str (S a.1), .str (S [40])]) = H1 at s0 hp0' ⊢
    refine lcb (walk_tup (xs := axs)) (fun D i H' => H' = upd H1 D (.lst ((sL (a.2.map fun t => txt (tokOf t))).take i))) (fun D hD => rfl) (fun D i H' hD e => ?_) (fun D i v H1' H2 hD hi e y => ?_) (fun D H' hD e => ?_)
    · rw [e]; exact SqT.of (by rw [upd_ne (ne_of_none (s0 _ _ h2) hD)]; exact s0 _ _ h2)
    · obtain ⟨rfl, hv⟩ := y
      subst e
      obtain ⟨d, hd, hr⟩ := reps_of h3 hv
      rw [List.getElem?_map] at hd
      obtain ⟨t, ht, rfl⟩ := Option.map_eq_some_iff.mp hd
      wtm_at "rd"
      refine ⟨t, v, rfl, hr.kt (KT.same (s0.trans (same_new hD _))) _ _, hb.2 t (List.mem_of_getElem? ht), ?_⟩
      exact acc_next (by rw [List.getElem?_map, List.getElem?_map, ht]; rfl) (by simp; have := hb.1; omega) (fun H' => H' = _) rfl
    · rw [List.take_of_length_le (by simp; omega)] at e
      subst e
      wtm_at "rd"
      have sD := same_new hD (.lst (sL (a.2.map fun t => txt (tokOf t))))
      refine ⟨D, a.2.map fun t => txt (tokOf t), [44], rfl, upd_same, by simp; have := hb.1; omega, fun p1 hp1 => ?_⟩
      have s1 := same_new hp1 (.lst (sL (btw [44] (a.2.map fun t => txt (tokOf t)))))
      have s2 := sD.trans s1
      have hbl := btw_len [44] (a.2.map fun t => txt (tokOf t))
      rw [List.length_map] at hbl
      have hb1 := hb.1
      wtm_at "rd"
      refine ⟨_, s2 _ _ hp0', _, upd_same, le_line (by simp [-List.map_map]; omega), fun p2 hp2 p3 hp3 => ?_⟩
      refine ⟨_, (same_new hp3 _) _ _ upd_same, _, upd_same, le_line (by simp [-List.map_map]; omega), fun p4 hp4 => ?_⟩
      have s3 := (s2.trans (same_new hp2 _)).trans (same_new hp3 (.lst [.str (S [41])]))
      refine q p4 _ ((s0.trans s3).trans (same_new hp4 _)) (by
        cases hH : H p4 with
        | none => rfl
        | some o => rw [(s0.trans s3) _ _ hH] at hp4; cases hp4) ?_
      rw [upd_same, atT_eq]
      simp [-List.map_map]
/-! ### _law_is_word -/
def spIsWord : Sp := fun vs H Q _ => ∃ l : List Nat, vs = [.str (S l)] ∧ Q (.bl (isWord l)) H
abbrev sc_l_is_word_N : List Str := ["_law_text", "_law_char"]
abbrev sc_l_is_word_P : List Str := ["_law_text"]
abbrev sc_l_is_word_s : Scope := defScope s_l_is_word
theorem sc_l_is_word : FnScope sc_l_is_word_N sc_l_is_word_P sc_l_is_word_s := ⟨rfl, rfl, rfl, by decide +kernel, rfl, by decide +kernel, by decide +kernel⟩

theorem ok_is_word (T : Txt K mg) : Cal P w K mg base CX0 1 "_law_is_word" spIsWord := by
  refine cal0 T.f_l_is_word T.g_l_is_word sc_l_is_word (fun _ _ _ _ _ _ us hl => match us, hl with | [_], _ => rfl) (fun vs H Q E h => ?_) (fun cdv A outer s H vs Q E hr h => ?_)
  · obtain ⟨l, rfl, _⟩ := h; rfl
  · obtain ⟨l, rfl, q⟩ := h
    refine ⟨_, (pss_cons (ps_if (pt_cmpR op_eq (pv 0) pe_str (nomark _)) (pss_one (ps_ret pe_bl)) pss_nil)
      (pss_cons (ps_for PassesOwn.never rfl (pi_str (pv 0)) (pg_name (i := 1) sc_l_is_word.nd rfl (by first | exact Or.inl rfl | exact Or.inr rfl)) (pss_one (ps_if (pt_cmpR op_notIn_sign (pv 1) pe_str rfl) (pss_one (ps_ret pe_bl)) pss_nil)))
      (pss_one (ps_ret pe_bl)))), ?_⟩
    wtm_at "rd"
    refine ite2 (fun h => ?_) (fun h => ?_)
    · subst h; exact q
    · obtain ⟨Pv, hPv⟩ := opq3 fun i σ H' => ∃ u, H' = H ∧ σ = [some (.str (S l)), u] ∧ ∀ c ∈ l.take i, isL c = true
      have hsz : (S l).cps.size = l.length := S_len l
      have hget : ∀ i : Nat, (S l).cps[i]? = l[i]? := fun i => by unfold S; simp
      refine forb (walk_str (z := S l)) Pv ((hPv _ _ _).mpr ⟨none, rfl, rfl, by simp⟩) (fun _ _ _ _ => trivial) (fun i x σ H1 H2 hi p y => ?_) (fun σ H1 p => ?_)
      · obtain ⟨u, rfl, rfl, hall⟩ := (hPv _ _ _).mp p
        obtain ⟨rfl, c, hc, rfl⟩ := y
        rw [hget] at hc
        wtm_at "rd"
        refine ite2 (fun h => ?_) (fun h => ?_)
        · have hno : isL c = false := by
            rw [← mem_letters]
            simpa using h
          have e : isWord l = false := by
            unfold isWord
            rw [Bool.and_eq_false_iff]
            exact .inr (by rw [← Bool.not_eq_true, List.all_eq_true]; intro z; have := z c (List.mem_of_getElem? hc); rw [hno] at this; cases this)
          rw [e] at q
          exact q
        · have hyes : isL c = true := by
            rw [← mem_letters]
            simpa using h
          refine (hPv _ _ _).mpr ⟨_, rfl, rfl, fun d hd => ?_⟩
          obtain ⟨hi2, e⟩ := List.getElem?_eq_some_iff.mp hc
          rw [← List.take_append_getElem hi2, List.mem_append] at hd
          rcases hd with hd | hd
          · exact hall d hd
          · rw [List.mem_singleton.mp hd, e]; exact hyes
      · obtain ⟨u, rfl, rfl, hall⟩ := (hPv _ _ _).mp p
        rw [hsz, List.take_length] at hall
        have e : isWord l = true := by
          unfold isWord
          rw [Bool.and_eq_true]
          refine ⟨?_, List.all_eq_true.mpr hall⟩
          cases l with
          | nil => exact absurd rfl h
          | cons _ _ => rfl
        rw [e] at q
        exact q
/-! ### _law_run, _law_token_end, _law_tokens -/
abbrev sc_l_run_N : List Str := ["_law_line", "_law_at", "_law_chars", "_law_k"]
abbrev sc_l_run_P : List Str := ["_law_line", "_law_at", "_law_chars"]
abbrev sc_l_run_s : Scope := defScope s_l_run
theorem sc_l_run : FnScope sc_l_run_N sc_l_run_P sc_l_run_s := ⟨rfl, rfl, rfl, by decide +kernel, rfl, by decide +kernel, by decide +kernel⟩

theorem ok_run (T : Txt K mg) : Cal P w K mg base CX0 1 "_law_run" spRunEnd := by
  refine cal0 T.f_l_run T.g_l_run sc_l_run (fun _ _ _ _ _ _ us hl => match us, hl with | [_, _, _], _ => rfl) (fun vs H Q E h => ?_) (fun cdv A outer s H vs Q E hr h => ?_)
  · obtain ⟨l, cs, a, rfl, _⟩ := h; rfl
  · obtain ⟨l, cs, a, rfl, ha, hl, q⟩ := h
    refine ⟨_, (pss_cons (ps_for PassesOwn.never rfl (pi_range2 (by rfl) T.b_range (pa_cons (pv 1) (pa_cons (pe_callB call_len_str (by rfl) T.b_len boot_len (pa_cons (pv 0) pa_nil)) pa_nil))) (pg_name (i := 3) sc_l_run.nd rfl (by first | exact Or.inl rfl | exact Or.inr rfl)) (pss_one (ps_if (pt_cmpR op_notIn_sign (pe_ix ix_str (pv 0) (pv 3) (fun _ _ => rfl)) (pv 2) rfl) (pss_one (ps_ret (pv 3))) pss_nil)))
      (pss_one (ps_ret (pe_callB call_len_str (by rfl) T.b_len boot_len (pa_cons (pv 0) pa_nil))))), ?_⟩
    wtm_at "rd"
    refine ⟨le_line (by omega), by omega, by omega, by omega, by omega, ?_⟩
    rw [show ((l.length : Int) - (a : Int)).toNat = l.length - a by omega]
    obtain ⟨Pv, hPv⟩ := opq3 fun i σ H' => ∃ u, H' = H ∧ σ = [some (.str (S l)), some (.int a), some (.str (S cs)), u] ∧ runN cs l (a + i) = runN cs l a
    refine forb (walk_range (lo := (a : Int)) (n := l.length - a)) Pv ((hPv _ _ _).mpr ⟨none, rfl, rfl, rfl⟩) (fun _ _ _ _ => trivial) (fun i x σ H1 H2 hi p y => ?_) (fun σ H1 p => ?_)
    · obtain ⟨u, rfl, rfl, hrun⟩ := (hPv _ _ _).mp p
      obtain ⟨rfl, rfl⟩ := y
      have hc : a + i < l.length := by omega
      wtm_at "rd"
      rw [show ((a : Int) + (i : Int)) = ((a + i : Nat) : Int) from rfl]
      refine ⟨le_line (by omega), l[a + i], atI_nat (List.getElem?_eq_getElem hc), ite2 (fun hm => ?_) (fun hm => ?_)⟩
      · have hm : ¬ l[a + i] ∈ cs := by simpa using hm
        have := runN_miss (List.getElem?_eq_getElem hc) hm
        rw [← hrun, this] at q
        exact q
      · have hm : l[a + i] ∈ cs := by simpa using hm
        refine (hPv _ _ _).mpr ⟨_, rfl, rfl, ?_⟩
        rw [← hrun, runN_hit (List.getElem?_eq_getElem hc) hm]
        rfl
    · obtain ⟨u, rfl, rfl, hrun⟩ := (hPv _ _ _).mp p
      rw [show a + (l.length - a) = l.length by omega, runN_end (Nat.le_refl _)] at hrun
      rw [← hrun] at q
      wtm_at "rd"
      exact ⟨le_line (by omega), q⟩
theorem hd0 (d : Nat) (ds : List Nat) : atI (S (d :: ds)).cps.toList 0 = some d := atI_nat (j := 0) (by unfold S; rfl)
/-- where the token ends (where it begins, if there is none) -/
def tokEnd (o : Option (Tk × Nat)) (a : Nat) : Nat := match o with
  | some (_, n) => a + n
  | none => a
def spTokEnd : Sp := fun vs H Q _ => ∃ (l : List Nat) (a : Nat), vs = [.str (S l), .int a] ∧ a < l.length ∧ l.length ≤ 1000000 ∧ DigOk l ∧ Q (.int (tokEnd (lexO l a) a : Nat)) H
abbrev sc_l_token_end_N : List Str := ["_law_line", "_law_at", "_law_letters", "_law_end", "_law_first", "_law_digits"]
abbrev sc_l_token_end_P : List Str := ["_law_line", "_law_at"]
abbrev sc_l_token_end_s : Scope := defScope s_l_token_end
theorem sc_l_token_end : FnScope sc_l_token_end_N sc_l_token_end_P sc_l_token_end_s := ⟨rfl, rfl, rfl, by decide +kernel, rfl, by decide +kernel, by decide +kernel⟩

theorem ok_token_end (T : Txt K mg) : Cal P w K mg base CX0 2 "_law_token_end" spTokEnd := by
  have c_l_run : Cal P w K mg base CX0 1 "_law_run" spRunEnd := ok_run T
  refine cal0 T.f_l_token_end T.g_l_token_end sc_l_token_end (fun _ _ _ _ _ _ us hl => match us, hl with | [_, _], _ => rfl) (fun vs H Q E h => ?_) (fun cdv A outer s H vs Q E hr h => ?_)
  · obtain ⟨l, a, rfl, _⟩ := h; rfl
  · obtain ⟨l, a, rfl, ha, hl, hk, q⟩ := h
    refine ⟨_, (pss_cons (ps_set (i := 2) sc_l_token_end.nd rfl (by first | exact Or.inl rfl | exact Or.inr rfl) pe_str)
      (pss_cons (ps_if (pt_cmpR op_in_sign (pe_ix ix_str (pv 0) (pv 1) (fun _ _ => rfl)) pe_str rfl) (pss_one (ps_ret (pe_op op_add (pv 1) pe_int))) pss_nil)
      (pss_cons (ps_if (pt_cmpR op_in_sign (pe_ix ix_str (pv 0) (pv 1) (fun _ _ => rfl)) (pv 2) rfl) (pss_one (ps_ret (pe_c c_l_run hr (pa_cons (pv 0) (pa_cons (pv 1) (pa_cons (pv 2) pa_nil)))))) pss_nil)
      (pss_cons (ps_if (pt_cmpR op_eq (pe_ix ix_str (pv 0) (pv 1) (fun _ _ => rfl)) pe_str (nomark _)) (pss_cons (ps_set (i := 3) sc_l_token_end.nd rfl (by first | exact Or.inl rfl | exact Or.inr rfl) (pe_c c_l_run hr (pa_cons (pv 0) (pa_cons (pe_op op_add (pv 1) pe_int) (pa_cons (pv 2) pa_nil)))))
      (pss_cons (ps_if (PW.pt (pw_and (pt_cmpR op_gt (pv 3) (pe_op op_add (pv 1) pe_int) (nomark _)) (pw_and1 (pt_cmpR op_eq (pe_slice sl_str (pv 0) (po_some (pv 3)) (po_some (pe_op op_add (pv 3) pe_int))) pe_str (nomark _))))) (pss_one (ps_ret (pe_op op_add (pv 3) pe_int))) pss_nil)
      (pss_one (ps_ret (pv 1))))) pss_nil)
      (pss_cons (ps_set (i := 4) sc_l_token_end.nd rfl (by first | exact Or.inl rfl | exact Or.inr rfl) (pe_op op_add (pv 1) (pe_callTy call_int1 (by rfl) T.b_int boot_int_ (pa_cons (pe_cmpR op_eq (pe_ix ix_str (pv 0) (pv 1) (fun _ _ => rfl)) pe_str (nomark _)) pa_nil))))
      (pss_cons (ps_set (i := 3) sc_l_token_end.nd rfl (by first | exact Or.inl rfl | exact Or.inr rfl) (pe_c c_l_run hr (pa_cons (pv 0) (pa_cons (pv 4) (pa_cons pe_str pa_nil)))))
      (pss_cons (ps_set (i := 5) sc_l_token_end.nd rfl (by first | exact Or.inl rfl | exact Or.inr rfl) (pe_slice sl_str (pv 0) (po_some (pv 4)) (po_some (pv 3))))
      (pss_cons (ps_if (PW.pt (pw_or (pt_cmpR op_eq (pv 5) pe_str (nomark _)) (pw_or1 (PW.pt (pw_and (pt_cmpR op_eq (pe_ix ix_str (pv 5) pe_int (fun _ _ => rfl)) pe_str (nomark _)) (pw_and1 (pt_cmpR op_ne (pe_slice sl_str (pv 0) (po_some (pv 1)) (po_some (pv 3))) pe_str (nomark _)))))))) (pss_one (ps_ret (pv 1))) pss_nil)
      (pss_one (ps_ret (pv 3))))))))))), ?_⟩
    obtain ⟨c, r, hd⟩ : ∃ c r, l.drop a = c :: r := ⟨_, _, List.drop_eq_getElem_cons ha⟩
    obtain ⟨hlt, hc, hr'⟩ := drop_at hd
    have hO : lexO l a = lex c r := by unfold lexO; rw [hd]
    rw [hO] at q
    unfold lex at q
    wtm_at "rd"
    refine ⟨le_line (by omega), c, atI_nat hc, ite2 (fun h => ?_) (fun h => ?_)⟩
    · rw [if_pos (show isS c = true by simpa [isS] using h)] at q
      exact q
    · rw [if_neg (show ¬ isS c = true by simpa [isS] using h)] at q
      refine ⟨le_line (by omega), c, atI_nat hc, ite2 (fun h2 => ?_) (fun h2 => ?_)⟩
      · have h2' : isL c = true := by rw [← mem_letters]; exact decide_eq_true h2
        rw [if_pos h2'] at q
        refine ⟨l, letters, a, rfl, by omega, hl, ?_⟩
        rw [runN_letters, hd]
        exact q
      · have h2' : ¬ isL c = true := by rw [← mem_letters]; simpa using h2
        rw [if_neg h2'] at q
        dsimp only at q
        refine ⟨le_line (by omega), c, atI_nat hc, ite2 (fun h3 => ?_) (fun h3 => ?_)⟩
        · rw [if_pos h3] at q
          refine ⟨l, letters, a + 1, rfl, by omega, hl, ?_⟩
          rw [runN_letters, hr']
          have hrl : r.length = l.length - (a + 1) := by rw [← hr', List.length_drop]
          have hw := run_len isL r
          have hdr : ∀ k, l.drop (a + 1 + k) = r.drop k := fun k => by rw [← hr', List.drop_drop]
          generalize r.takeWhile isL = u at q hw ⊢
          wtm_at "rd"
          refine ite2 (fun h4 => ?_) (fun h4 => ?_)
          · have hu : u ≠ [] := fun e => by rw [e] at h4; simp at h4
            have hcut : cutS (S l) (some ((a + 1 + u.length : Nat) : Int)) (some ((a + 1 + u.length + 1 : Nat) : Int)) = S ((r.drop u.length).take 1) := by
              by_cases hb : a + 1 + u.length + 1 ≤ l.length
              · rw [cut2 (by omega) hb, hdr, Nat.add_sub_cancel_left]
              · have he : a + 1 + u.length = l.length := by omega
                unfold cutS
                rw [HT.sIx_nat, HT.sIx_nat, S_len, he, Nat.min_self, Nat.min_eq_right (by omega), Nat.sub_self]
                rw [show r.drop u.length = [] from List.drop_eq_nil_of_le (by omega)]
                rfl
            have e34 : (S ((r.drop u.length).take 1) = S [34]) ↔ (r.drop u.length).head? = some 34 := by
              rw [S_eq]
              cases r.drop u.length with
              | nil => simp
              | cons x y => simp
            refine ⟨le_line (by omega), ite2 (fun h5 => ?_) (fun h5 => ?_)⟩
            · rw [hcut, e34] at h5
              rw [if_pos ⟨hu, h5⟩] at q
              rw [show a + 1 + u.length + 1 = a + (u.length + 2) by omega]
              exact q
            · rw [hcut, e34] at h5
              rw [if_neg (fun z => h5 z.2)] at q
              exact q
          · have hu : u = [] := List.eq_nil_of_length_eq_zero (by omega)
            rw [if_neg (fun z => z.1 hu)] at q
            exact q
        · rw [if_neg h3] at q
          refine ⟨le_line (by omega), c, atI_nat hc, ?_⟩
          by_cases hc45 : c = 45
          · subst hc45
            rw [if_pos rfl]
            refine ⟨l, digs, a + 1, rfl, by omega, hl, ?_⟩
            rw [runN_digs, hr']
            have hrl : r.length = l.length - (a + 1) := by rw [← hr', List.length_drop]
            obtain ⟨ds, hds⟩ : ∃ ds, ds = r.takeWhile isD := ⟨_, rfl⟩
            have hdl : ds.length ≤ r.length := by rw [hds]; exact run_len _ _
            rw [← hds]
            have hcut1 : cutS (S l) (some ((a + 1 : Nat) : Int)) (some ((a + 1 + ds.length : Nat) : Int)) = S ds := by
              rw [cut2 (by omega) (by omega), hr', Nat.add_sub_cancel_left, tw_take' hds]
            have hcut2 : cutS (S l) (some ((a : Nat) : Int)) (some ((a + 1 + ds.length : Nat) : Int)) = S (45 :: ds) := by
              rw [cut2 (by omega) (by omega), hd, show a + 1 + ds.length - a = ds.length + 1 by omega, List.take_succ_cons, tw_take' hds]
            wtm_at "rd"
            refine ⟨le_line (by omega), ?_⟩
            rw [hcut1]
            refine ite2 (fun h => ?_) (fun h => ?_)
            · have h := S_inj h
              rw [lexI_none (c := 45) (r := r) (ds := ds) hds (.inl h)] at q
              exact q
            · have h : ds ≠ [] := fun z => h (by rw [z])
              obtain ⟨d, ds', r', e1, e2, e3⟩ := tw_head hds h
              refine ⟨le_line (by rw [S_len]; omega), d, by rw [e1]; exact hd0 d ds', ite2 (fun h48 => ?_) (fun h48 => ?_)⟩
              · refine ⟨le_line (by omega), ?_⟩
                rw [hcut2, if_pos (fun z => by have z := S_inj z; injection z with z; exact absurd z (by decide))]
                rw [lexI_none (c := 45) (r := r) (ds := ds) hds (.inr ⟨by rw [e1, h48]; rfl, by rw [e1]; simp⟩)] at q
                exact q
              · rw [lexI_some (c := 45) (r := r) (ds := ds) hds h (fun z => h48 (by rw [e1] at z; simpa using z.1))] at q
                have e : tokEnd (some (Tk.it (valL (decide ((45 : Nat) = 45)) ds), ds.length + (if (decide ((45 : Nat) = 45)) = true then 1 else 0))) a = a + 1 + ds.length := by
                  show a + (ds.length + 1) = _
                  omega
                rw [e] at q
                exact q
          · rw [if_neg hc45]
            have hne45 : (decide (c = 45)) = false := decide_eq_false hc45
            refine ⟨l, digs, a, rfl, by omega, hl, ?_⟩
            rw [runN_digs, hd]
            have hrl : (c :: r).length = l.length - a := by rw [← hd, List.length_drop]
            obtain ⟨ds, hds⟩ : ∃ ds, ds = (c :: r).takeWhile isD := ⟨_, rfl⟩
            have hds2 : ds = (if (decide (c = 45)) = true then r else c :: r).takeWhile isD := by rw [hne45]; exact hds
            have hdl : ds.length ≤ (c :: r).length := by rw [hds]; exact run_len _ _
            rw [← hds]
            have hcut : cutS (S l) (some ((a : Nat) : Int)) (some ((a + ds.length : Nat) : Int)) = S ds := by
              rw [cut2 (by omega) (by omega), hd, Nat.add_sub_cancel_left, tw_take' hds]
            wtm_at "rd"
            rw [show ((a : Int) + 0) = (a : Int) from Int.add_zero _]
            refine ⟨le_line (by omega), ?_⟩
            rw [hcut]
            refine ite2 (fun h => ?_) (fun h => ?_)
            · have h := S_inj h
              rw [lexI_none (ds := ds) hds2 (.inl h)] at q
              exact q
            · have h : ds ≠ [] := fun z => h (by rw [z])
              obtain ⟨d, ds', r', e1, e2, e3⟩ := tw_head hds h
              have good : ¬ (ds.head? = some 48 ∧ ds.length > 1) → Q (.int ((a + ds.length : Nat) : Int)) H := fun h0 => by
                rw [lexI_some (ds := ds) hds2 h (by rw [hne45]; exact h0), hne45] at q
                exact q
              refine ⟨le_line (by rw [S_len]; omega), d, by rw [e1]; exact hd0 d ds', ite2 (fun h48 => ?_) (fun h48 => ?_)⟩
              · refine ⟨le_line (by omega), ?_⟩
                refine ite2 (fun h1 => ?_) (fun h1 => ?_)
                · have h1 : ds ≠ [48] := fun z => h1 (by rw [z])
                  rw [lexI_none (ds := ds) hds2 (.inr ⟨by rw [e1, h48]; rfl, by
                    rw [hne45, e1]
                    rw [e1, h48] at h1
                    cases ds' with
                    | nil => exact absurd rfl h1
                    | cons _ _ => simp⟩)] at q
                  exact q
                · exact good (fun z => by rw [S_inj (Decidable.not_not.mp h1)] at z; simp at z)
              · exact good (fun z => h48 (by rw [e1] at z; simpa using z.1))
end
end K26

end
section
set_option linter.all false
set_option maxRecDepth 100000
set_option maxHeartbeats 4000000
namespace K26
open PySem PySem.Spec PyProof.Rows L2
open SX (S S_len S_cat S_inj)
open PySem.NumText
local macro_rules | `(tactic| wtm_at "rd") => `(tactic| try simp only [tSeq, tAsg, tVar, tC, gName, tRet, tRetN, tIfS, tNext, tDrop, tOp, tUn, rI0, rI, rU, tTest, tB, tAnd, tOr, tNot, tAndV, tOrV, tNotV, tIf, tCB, tCons, tNil, tTup, tLst, tCall, tSl, tPart, tNoPart, tBM, tBM0, gTup, gCons, gNil, gSub, tAug, ipI, rEq, rNe, sc_ii, sc_ss, sc_bb, sc_nn, sc_is, sc_si, sc_ns, sc_sn, sc_ni, sc_in, z0, z1, z2, z3, z4, z5, if_true, if_false, Bool.not_eq_true', decide_eq_false_iff_not, rIxS, rSlS, rSlL, tAugS, rGetL, cast1, rIxL, rIxT, rSetL, rAppend, rPop, rPopAt, rReverse, rCat, tYes, iRng1, iRng2, tMkBad, rIn, tFld, sFld, sFldAug, rAdd, tMeth, tMake, tCallS, tBadF, tM1, iList, iTup, iEnum, iEnumT, iStr, tBreak, C8.tCut, tFor_eq, tLc_eq, wipe_1,
  L2.start, List.map_cons, List.map_nil, List.cons_append, List.nil_append, List.append_nil, List.length_cons, List.length_nil, Nat.reduceAdd, Nat.reduceSub, List.replicate_succ, List.replicate_zero,
  List.getElem?_cons_succ, List.getElem?_cons_zero, List.set_cons_succ, List.set_cons_zero, Option.some.injEq, V.int.injEq, V.str.injEq, V.ref.injEq, V.bl.injEq, List.cons.injEq, and_assoc, and_true, true_and, exists_eq_left', exists_eq_left, exists_and_left, exists_and_right, exists_eq, decide_eq_true_eq, reduceCtorEq, false_and, and_false, exists_false, false_or, or_false, S_len, S_eq, k0, k1, k2, k3, k4, k5, k6, k7, k8, k9, k10, k11, k12, k13, k14, k15, k16, k17, k18, k19, k20, k21, k22, k23, k24, k25, k26, k27, k28, k29, k30, k31, k32, k33, k34, k35, k36, k37, k38, k39, k40, k41, k42, k43, k44, k45, k46, k47, k48, k49, k50, k51, k52, k53, Nat.zero_add])

section
variable {P : Program} {w : World} {K : PySem.W.Frag} {mg : Str → Option Value} {base : Heap} {CB fI : Addr}
/-- tokens as (place, text) -/
def txV (t : Nat × Tk) : List V := [.int (t.1 : Int), .str (S (txt t.2))]
abbrev TxR (H : Hp) : List V → List TT → Prop := Paired fun v t => ∃ a, v = V.ref a ∧ H a = some (.tup (txV t))
theorem TxR.kt {H H' : Hp} {xs : List V} {ts : List TT} (k : KT H H') (h : TxR H xs ts) : TxR H' xs ts := Paired.mapP h fun _ _ ⟨a, e, h⟩ => ⟨a, e, k _ _ h⟩
def spToks : Sp := fun vs H Q _ => ∃ (l : List Nat), vs = [.str (S l)] ∧ l.length ≤ 1000000 ∧ DigOk l ∧ ∀ p H' xs, Same H H' → H p = none → H' p = some (.lst xs) → TxR H' xs (toks 0 l) → Q (.ref p) H'
abbrev sc_l_tokens_N : List Str := ["_law_line", "_law_found", "_law_at", "_law_k", "_law_end"]
abbrev sc_l_tokens_P : List Str := ["_law_line"]
abbrev sc_l_tokens_s : Scope := defScope s_l_tokens
theorem sc_l_tokens : FnScope sc_l_tokens_N sc_l_tokens_P sc_l_tokens_s := ⟨rfl, rfl, rfl, by decide +kernel, rfl, by decide +kernel, by decide +kernel⟩

theorem ok_tokens (T : Txt K mg) : Cal P w K mg base CX0 3 "_law_tokens" spToks := by
  have c_l_run : Cal P w K mg base CX0 1 "_law_run" spRunEnd := ok_run T
  have c_l_token_end : Cal P w K mg base CX0 2 "_law_token_end" spTokEnd := ok_token_end T
  refine cal0 T.f_l_tokens T.g_l_tokens sc_l_tokens (fun _ _ _ _ _ _ us hl => match us, hl with | [_], _ => rfl) (fun vs H Q E h => ?_) (fun cdv A outer s H vs Q E hr h => ?_)
  · obtain ⟨l, rfl, _⟩ := h; rfl
  · obtain ⟨l, rfl, hl, hk, q⟩ := h
    refine ⟨_, (pss_cons (ps_set (i := 1) sc_l_tokens.nd rfl (by first | exact Or.inl rfl | exact Or.inr rfl) (pe_lst pa_nil))
      (pss_cons (ps_set (i := 2) sc_l_tokens.nd rfl (by first | exact Or.inl rfl | exact Or.inr rfl) (pe_c c_l_run hr (pa_cons (pv 0) (pa_cons pe_int (pa_cons pe_str pa_nil)))))
      (pss_cons (ps_for PassesOwn.never rfl (pi_range1 (by rfl) T.b_range (pa_cons (pe_callB call_len_str (by rfl) T.b_len boot_len (pa_cons (pv 0) pa_nil)) pa_nil)) (pg_name (i := 3) sc_l_tokens.nd rfl (by first | exact Or.inl rfl | exact Or.inr rfl)) (pss_cons (ps_if (pt_cmpR op_eq (pv 2) (pe_callB call_len_str (by rfl) T.b_len boot_len (pa_cons (pv 0) pa_nil)) (nomark _)) (pss_one ps_break) pss_nil)
      (pss_cons (ps_set (i := 4) sc_l_tokens.nd rfl (by first | exact Or.inl rfl | exact Or.inr rfl) (pe_c c_l_token_end hr (pa_cons (pv 0) (pa_cons (pv 2) pa_nil))))
      (pss_cons (ps_if (pt_cmpR op_eq (pv 4) (pv 2) (nomark _)) (pss_one (ps_ret (pe_op op_cat (pv 1) (pe_lst (pa_cons (pe_tup (pa_cons (pv 2) (pa_cons pe_str pa_nil))) pa_nil))))) pss_nil)
      (pss_cons (ps_expr (pe_bm PySem.F.plainAttrs_list PySem.F.slot_list_append PySem.F.type_list_append mt_append (pv 1) (pa_cons (pe_tup (pa_cons (pv 2) (pa_cons (pe_slice sl_str (pv 0) (po_some (pv 2)) (po_some (pv 4))) pa_nil))) pa_nil)))
      (pss_one (ps_set (i := 2) sc_l_tokens.nd rfl (by first | exact Or.inl rfl | exact Or.inr rfl) (pe_c c_l_run hr (pa_cons (pv 0) (pa_cons (pv 4) (pa_cons pe_str pa_nil)))))))))))
      (pss_one (ps_ret (pe_op op_cat (pv 1) (pe_lst (pa_cons (pe_tup (pa_cons (pe_callB call_len_str (by rfl) T.b_len boot_len (pa_cons (pv 0) pa_nil)) (pa_cons pe_str pa_nil))) pa_nil)))))))), ?_⟩
    wtm_at "rd"
    intro p hp
    refine ⟨l, [32], 0, rfl, by omega, hl, ?_⟩
    wtm_at "rd"
    have hall := toks_len l.length 0 l (Nat.le_refl _)
    refine ⟨le_line (by omega), by omega, by omega, ?_⟩
    rw [Int.toNat_natCast]
    obtain ⟨Pv, hPv⟩ := opq3 fun i σ H' => ∃ (off at_ : Nat) (xs : List V) (done : List (Nat × Tk)) (u1 u2 : Option V), Same H H' ∧ H' p = some (.lst xs) ∧ TxR H' xs done ∧ off ≤ l.length ∧ at_ = off + spn (l.drop off) ∧ done ++ toks off (l.drop off) = toks 0 l ∧ i ≤ at_ ∧
      σ = [some (.str (S l)), some (.ref p), some (.int (at_ : Int)), u1, u2]
    rw [runN_space]
    have fin : ∀ (off : Nat) (xs : List V) (done : List (Nat × Tk)) (H' : Hp), Same H H' → H' p = some (.lst xs) → TxR H' xs done → l.length = off + spn (l.drop off) → done ++ toks off (l.drop off) = toks 0 l →
        l.length ≤ sizeLine ∧ ∀ tp, H' tp = none → ∀ tp2, upd H' tp (.tup [.int (l.length : Int), .str (S [])]) tp2 = none → ∃ ys, upd (upd H' tp (.tup [.int (l.length : Int), .str (S [])])) tp2 (.lst [.ref tp]) p = some (.lst ys) ∧
          ∃ zs, upd (upd H' tp (.tup [.int (l.length : Int), .str (S [])])) tp2 (.lst [.ref tp]) tp2 = some (.lst zs) ∧ ys.length + zs.length ≤ sizeLine ∧ ∀ tp3, upd (upd H' tp (.tup [.int (l.length : Int), .str (S [])])) tp2 (.lst [.ref tp]) tp3 = none →
            Q (.ref tp3) (upd (upd (upd H' tp (.tup [.int (l.length : Int), .str (S [])])) tp2 (.lst [.ref tp])) tp3 (.lst (ys ++ zs))) := by
      intro off xs done H' hs hx ht hat hd
      have hb := toks_nil (off := off) (s := l.drop off) (by rw [List.drop_drop, ← hat]; exact List.drop_length ..)
      rw [hb, ← hat] at hd
      have hxl : xs.length ≤ l.length + 1 := by
        rw [ht.length]
        have := congrArg List.length hd
        rw [List.length_append] at this
        omega
      refine ⟨le_line (by omega), fun tp htp tp2 htp2 => ?_⟩
      have s1 := same_new htp (.tup [.int (l.length : Int), .str (S [])])
      have s2 := same_new htp2 (.lst [.ref tp])
      refine ⟨xs, s2 _ _ (s1 _ _ hx), _, upd_same, le_line (by simp; omega), fun tp3 htp3 => ?_⟩
      have s3 := same_new htp3 (.lst (xs ++ [.ref tp]))
      have sall := s1.trans (s2.trans s3)
      refine q tp3 _ _ (hs.trans sall) (by
        cases hH : H tp3 with
        | none => rfl
        | some o => rw [(hs.trans (s1.trans s2)) _ _ hH] at htp3; cases htp3) upd_same ?_
      rw [← hd]
      exact pr_app (ht.kt (KT.same sall)) (.cons ⟨tp, rfl, s3 _ _ (s2 _ _ upd_same)⟩ .nil)
    refine forb (walk_range (lo := 0) (n := l.length)) Pv ((hPv _ _ _).mpr ⟨0, _, [], [], none, none, same_new hp _, upd_same, .nil, by omega, rfl, rfl, by omega, rfl⟩) (fun _ _ _ _ => trivial) (fun i x σ H1 H2 hi pv y => ?_) (fun σ H1 pv => ?_)
    · obtain ⟨off, at_, xs, done, u1, u2, hs, hx, ht, ho, hat, hd, hia, rfl⟩ := (hPv _ _ _).mp pv
      obtain ⟨rfl, rfl⟩ := y
      have hsp := spn_le (l.drop off)
      rw [List.length_drop] at hsp
      have hdd : l.drop at_ = (l.drop off).drop (spn (l.drop off)) := by rw [List.drop_drop, hat]
      have hxl : xs.length ≤ l.length + 1 := by
        rw [ht.length]
        have := congrArg List.length hd
        rw [List.length_append] at this
        omega
      wtm_at "rd"
      refine ⟨le_line (by omega), ite2 (fun h => ?_) (fun h => ?_)⟩
      · have e : at_ = l.length := by omega
        subst e
        exact fin off xs done _ hs hx ht hat hd
      · have hlt : at_ < l.length := by omega
        obtain ⟨c, r, hcr⟩ : ∃ c r, l.drop at_ = c :: r := ⟨_, _, List.drop_eq_getElem_cons hlt⟩
        have hO : lexO l at_ = lex c r := by unfold lexO; rw [hcr]
        refine ⟨l, at_, rfl, hlt, hl, hk, ?_⟩
        wtm_at "rd"
        rw [hO]
        have hcr' := hcr
        rw [hdd] at hcr
        have hpx : ∀ {tp : Addr} {o : HO}, H2 tp = none → upd H2 tp o p = some (.lst xs) := fun {tp o} h => by rw [upd_ne (ne_of_none hx h)]; exact hx
        cases hlex : lex c r with
        | none =>
          have hb := toks_bad (off := off) hcr hlex
          rw [hb, ← hat] at hd
          show ite ((at_ : Int) = (at_ : Int)) _ _
          rw [if_pos rfl]
          intro tp htp tp2 htp2
          have s1 := same_new htp (.tup [.int (at_ : Int), .str (S [32])])
          have s2 := same_new htp2 (.lst [.ref tp])
          refine ⟨xs, s2 _ _ (hpx htp), _, upd_same, le_line (by simp; omega), fun tp3 htp3 => ?_⟩
          have s3 := same_new htp3 (.lst (xs ++ [.ref tp]))
          have sall := s1.trans (s2.trans s3)
          refine q tp3 _ _ (hs.trans sall) (by
            cases hH : H tp3 with
            | none => rfl
            | some o => rw [(hs.trans (s1.trans s2)) _ _ hH] at htp3; cases htp3) upd_same ?_
          rw [← hd]
          exact pr_app (ht.kt (KT.same sall)) (.cons ⟨tp, rfl, s3 _ _ (s2 _ _ upd_same)⟩ .nil)
        | some tn =>
          obtain ⟨t, n⟩ := tn
          have hb := toks_cons (off := off) hcr hlex
          have hn := lex_len hlex
          have hln : (c :: r).length = l.length - at_ := by rw [← hcr', List.length_drop]
          have hdn : (l.drop off).drop (spn (l.drop off) + n) = l.drop (at_ + n) := by rw [List.drop_drop, hat, Nat.add_assoc]
          rw [hb, ← hat, hdn] at hd
          have et : tokEnd (some (t, n)) at_ = at_ + n := rfl
          rw [et]
          rw [if_neg (by omega)]
          refine ⟨tyL hx, le_line (by omega), fun tp htp => ⟨xs, hpx htp, lt_line (by omega), l, [32], at_ + n, rfl, by omega, hl, ?_⟩⟩
          wtm_at "rd"
          have hcut : cutS (S l) (some ((at_ : Nat) : Int)) (some ((at_ + n : Nat) : Int)) = S (txt t) := by
            rw [cut2 (by omega) (by omega), hcr', Nat.add_sub_cancel_left, (lex_txt hlex).1]
          have s1 := same_new htp (.tup (txV (at_, t)))
          have hne : tp ≠ p := (ne_of_none hx htp).symm
          have hspn := spn_le (l.drop (at_ + n))
          rw [List.length_drop] at hspn
          refine (hPv _ _ _).mpr ⟨at_ + n, _, xs ++ [.ref tp], done ++ [(at_, t)], _, _, ?_, upd_same, ?_, by omega, by rw [← runN_space], by rw [List.append_assoc]; exact hd, by rw [runN_space]; omega, rfl⟩
          · show Same H (upd (upd H2 tp (.tup [.int (at_ : Int), .str (cutS (S l) (some ((at_ : Nat) : Int)) (some ((at_ + n : Nat) : Int)))])) p _)
            rw [hcut]
            exact same_mut (hs.trans s1) hp
          · rw [show (V.str (cutS (S l) (some ((at_ : Nat) : Int)) (some ((at_ + n : Nat) : Int)))) = .str (S (txt t)) by rw [hcut]]
            have kt := ((KT.refl _).new (u := .tup [.int (at_ : Int), .str (S (txt t))]) htp).upd (x := p) (u := .lst (xs ++ [.ref tp])) (hpx htp) fun _ z => by cases z
            refine pr_app (ht.kt kt) (.cons ⟨tp, rfl, ?_⟩ .nil)
            rw [upd_ne hne, upd_same]
            rfl
    · obtain ⟨off, at_, xs, done, u1, u2, hs, hx, ht, ho, hat, hd, hia, rfl⟩ := (hPv _ _ _).mp pv
      have hsp := spn_le (l.drop off)
      rw [List.length_drop] at hsp
      have e : at_ = l.length := by omega
      subst e
      wtm_at "rd"
      exact fin off xs done _ hs hx ht hat hd
end
end K26

end
section
set_option linter.all false
set_option maxRecDepth 100000
set_option maxHeartbeats 4000000
namespace K26
open PySem PySem.Spec PyProof.Rows L2
open SX (S S_len S_cat S_inj)
open PySem.NumText
local macro_rules | `(tactic| wtm_at "rd") => `(tactic| try simp only [tSeq, tAsg, tVar, tC, gName, tRet, tRetN, tIfS, tNext, tDrop, tOp, tUn, rI0, rI, rU, tTest, tB, tAnd, tOr, tNot, tAndV, tOrV, tNotV, tIf, tCB, tCons, tNil, tTup, tLst, tCall, tSl, tPart, tNoPart, tBM, tBM0, gTup, gCons, gNil, gSub, tAug, ipI, rEq, rNe, sc_ii, sc_ss, sc_bb, sc_nn, sc_is, sc_si, sc_ns, sc_sn, sc_ni, sc_in, z0, z1, z2, z3, z4, z5, if_true, if_false, Bool.not_eq_true', decide_eq_false_iff_not, rIxS, rSlS, rSlL, tAugS, rGetL, cast1, rIxL, rIxT, rSetL, rAppend, rPop, rPopAt, rReverse, rCat, tYes, iRng1, iRng2, tMkBad, rIn, tFld, sFld, sFldAug, rAdd, tMeth, tMake, tCallS, tBadF, tM1, iList, iTup, iEnum, iEnumT, iStr, tBreak, C8.tCut, tFor_eq, tLc_eq, wipe_1,
  L2.start, List.map_cons, List.map_nil, List.cons_append, List.nil_append, List.append_nil, List.length_cons, List.length_nil, Nat.reduceAdd, Nat.reduceSub, List.replicate_succ, List.replicate_zero,
  List.getElem?_cons_succ, List.getElem?_cons_zero, List.set_cons_succ, List.set_cons_zero, Option.some.injEq, V.int.injEq, V.str.injEq, V.ref.injEq, V.bl.injEq, List.cons.injEq, and_assoc, and_true, true_and, exists_eq_left', exists_eq_left, exists_and_left, exists_and_right, exists_eq, decide_eq_true_eq, reduceCtorEq, false_and, and_false, exists_false, false_or, or_false, S_len, S_eq, k0, k1, k2, k3, k4, k5, k6, k7, k8, k9, k10, k11, k12, k13, k14, k15, k16, k17, k18, k19, k20, k21, k22, k23, k24, k25, k26, k27, k28, k29, k30, k31, k32, k33, k34, k35, k36, k37, k38, k39, k40, k41, k42, k43, k44, k45, k46, k47, k48, k49, k50, k51, k52, k53, Nat.zero_add])

section
variable {P : Program} {w : World} {K : PySem.W.Frag} {mg : Str → Option Value} {base : Heap} {CB fI : Addr}
def stopI (J : Body) (ts : List TT) : Int := match mfail J ⟨[], [], true, []⟩ ts with
  | none => -1
  | some r => ((ts.length - r.length : Nat) : Int)
theorem cut_tail (x : List Nat) (xs : List (List Nat)) : cutV (sL (x :: xs)) (some 1) none = sL xs := by
  unfold cutV
  simp [HT.sIx]
  exact List.take_of_length_le (by simp)
def spStop : Sp := fun vs H Q _ => ∃ (jv : V) (tp : Addr) (J : Body) (ts : List TT), vs = [jv, .ref tp] ∧ Rep H (joinD J) jv ∧ JB J ∧ OkJ J ∧ (∀ a ∈ J, AtB a) ∧ H tp = some (.lst (sL (texts ts))) ∧ ts.length ≤ 1000001 ∧ ∀ H', Same H H' → Q (.int (stopI J ts)) H'
abbrev iL (cs : List Nat) : List V := cs.reverse.map fun (c : Nat) => V.int (c : Int)
theorem findN_filter (J : Body) (t : List Nat) : ((J.filter fun a => decide (a.1 = t)).head?) = (findN J t).map Prod.snd := by
  induction J with
  | nil => rfl
  | cons a r ih =>
    unfold findN
    by_cases h : a.1 = t
    · simp [h]
    · simp only [h, decide_false, if_false, List.filter_cons, Bool.false_eq_true]
      rw [ih]
      cases findN r t <;> rfl
abbrev sc_l_plan_stop_N : List Str := ["_law_join", "_law_texts", "_law_counts", "_law_pending", "_law_begins", "_law_last", "_law_k", "_law_text", "_law_atoms", "_law_atom_here", "_law_ends"]
abbrev sc_l_plan_stop_P : List Str := ["_law_join", "_law_texts"]
abbrev sc_l_plan_stop_s : Scope := defScope s_l_plan_stop
theorem sc_l_plan_stop : FnScope sc_l_plan_stop_N sc_l_plan_stop_P sc_l_plan_stop_s := ⟨rfl, rfl, rfl, by decide +kernel, rfl, by decide +kernel, by decide +kernel⟩

theorem ok_plan_stop (T : Txt K mg) : Cal P w K mg base CX0 4 "_law_plan_stop" spStop := by
  have c_l_is_word : Cal P w K mg base CX0 1 "_law_is_word" spIsWord := ok_is_word T
  have c_l_atom_texts : Cal P w K mg base CX0 3 "_law_atom_texts" spAT := ok_atom_texts T
  refine cal0 T.f_l_plan_stop T.g_l_plan_stop sc_l_plan_stop (fun _ _ _ _ _ _ us hl => match us, hl with | [_, _], _ => rfl) (fun vs H Q E h => ?_) (fun cdv A outer s H vs Q E hr h => ?_)
  · obtain ⟨jv, tp, J, ts, rfl, _⟩ := h; rfl
  · obtain ⟨jv, tp, J, ts, rfl, hJ, hB, hO, hA, htp, hts, q⟩ := h
    obtain ⟨jp, je, jq, jxs, rfl, hj1, hj2, hj3⟩ := rep_join hJ
    have hjl : jxs.length = J.length := by rw [reps_len hj3, List.length_map]
    have hB' : J.length ≤ 1000 := hB
    have aj : ∀ {i : Nat} {v : V}, jxs[i]? = some v → ∃ at_, J[i]? = some at_ ∧ Rep H (atomD at_) v := fun {i v} e => by
      obtain ⟨d, h1, h2⟩ := reps_of hj3 e
      rw [List.getElem?_map] at h1
      obtain ⟨b, h3, rfl⟩ := Option.map_eq_some_iff.mp h1
      exact ⟨b, h3, h2⟩
    refine ⟨_, (pss_cons (ps_set (i := 2) sc_l_plan_stop.nd rfl (by first | exact Or.inl rfl | exact Or.inr rfl) (pe_lst pa_nil))
      (pss_cons (ps_set (i := 3) sc_l_plan_stop.nd rfl (by first | exact Or.inl rfl | exact Or.inr rfl) (pe_lst pa_nil))
      (pss_cons (ps_set (i := 4) sc_l_plan_stop.nd rfl (by first | exact Or.inl rfl | exact Or.inr rfl) pe_bl)
      (pss_cons (ps_set (i := 5) sc_l_plan_stop.nd rfl (by first | exact Or.inl rfl | exact Or.inr rfl) pe_str)
      (pss_cons (ps_for PassesOwn.never rfl (pi_range1 (by rfl) T.b_range (pa_cons (pe_callB call_len_seq (by rfl) T.b_len boot_len (pa_cons (pv 1) pa_nil)) pa_nil)) (pg_name (i := 6) sc_l_plan_stop.nd rfl (by first | exact Or.inl rfl | exact Or.inr rfl)) (pss_cons (ps_set (i := 7) sc_l_plan_stop.nd rfl (by first | exact Or.inl rfl | exact Or.inr rfl) (pe_ix ix_list (pv 1) (pv 6) (fun _ _ => rfl)))
      (pss_cons (ps_setLc (i := 8) (own := [("_law_atom_here", 9)]) (g := gName 9) rfl sc_l_plan_stop.nd rfl rfl (sw_true rfl rfl rfl (by decide +kernel)) (pi_tup (pe_ix ix_tup (pv 0) pe_int (fun _ _ => rfl))) (blkOk_by (own := [("_law_atom_here", 9)]) (N := sc_l_plan_stop_N) (sc := sc_l_plan_stop_s) (by decide +kernel)) (fun _ _ _ _ _ => pg_name (i := 9) sc_l_plan_stop.nd rfl (Or.inl rfl)) (fun _ _ _ _ _ => pts_one (pt_cmpR op_eq (pe_ix (kx_tup (K := K) rfl) (pv 9) pe_int (fun _ _ => rfl)) (pv 7) (nomark _))) (fun _ _ _ _ _ => (pv 9)))
      (pss_cons (ps_set (i := 10) sc_l_plan_stop.nd rfl (by first | exact Or.inl rfl | exact Or.inr rfl) pe_bl)
      (C8.pss_cut (ps_if (pt_cmpR op_gt (pe_callB call_len_seq (by rfl) T.b_len boot_len (pa_cons (pv 3) pa_nil)) pe_int (nomark _)) (pss_cons (ps_if (pt_cmpR op_ne (pv 7) (pe_ix ix_list (pv 3) pe_int (fun _ _ => rfl)) (nomark _)) (pss_one (ps_ret (pv 6))) pss_nil)
      (pss_cons (ps_set (i := 3) sc_l_plan_stop.nd rfl (by first | exact Or.inl rfl | exact Or.inr rfl) (pe_slice sl_list (pv 3) (po_some pe_int) po_none))
      (pss_one (ps_set (i := 10) sc_l_plan_stop.nd rfl (by first | exact Or.inl rfl | exact Or.inr rfl) (pe_cmpR op_eq (pe_callB call_len_seq (by rfl) T.b_len boot_len (pa_cons (pv 3) pa_nil)) pe_int (nomark _)))))) (pss_one (ps_if (pt_cmpR op_eq (pv 5) pe_str (nomark _)) (pss_one (ps_if (pt_not (pt_val (pe_c c_l_is_word hr (pa_cons (pv 7) pa_nil)))) (pss_one (ps_ret (pv 6))) pss_nil)) (pss_one (ps_if (PW.pt (pw_and (pt_val (pv 4)) (pw_and1 (pt_cmpR op_eq (pv 7) pe_str (nomark _))))) (pss_one (ps_expr (pe_bm PySem.F.plainAttrs_list PySem.F.slot_list_append PySem.F.type_list_append mt_append (pv 2) (pa_cons pe_int pa_nil)))) (pss_one (ps_if (PW.pt (pw_and (pt_val (pv 4)) (pw_and1 (pt_cmpR op_gt (pe_callB call_len_seq (by rfl) T.b_len boot_len (pa_cons (pv 8) pa_nil)) pe_int (nomark _))))) (pss_one (ps_set (i := 3) sc_l_plan_stop.nd rfl (by first | exact Or.inl rfl | exact Or.inr rfl) (pe_slice sl_list (pe_c c_l_atom_texts hr (pa_cons (pe_ix ix_list (pv 8) pe_int (fun _ _ => rfl)) pa_nil)) (po_some pe_int) po_none))) (pss_one (ps_if (pt_val (pv 4)) (pss_one (ps_if (pt_cmpR op_ne (pv 7) pe_str (nomark _)) (pss_one (ps_ret (pv 6))) pss_nil)) (pss_one (ps_if (PW.pt (pw_and (pt_cmpR op_eq (pv 7) pe_str (nomark _)) (pw_and1 (pt_cmpR op_gt (pe_callB call_len_seq (by rfl) T.b_len boot_len (pa_cons (pv 2) pa_nil)) pe_int (nomark _))))) (pss_one (ps_set (i := 4) sc_l_plan_stop.nd rfl (by first | exact Or.inl rfl | exact Or.inr rfl) pe_bl)) (pss_one (ps_if (PW.pt (pw_and (pt_cmpR op_eq (pv 7) pe_str (nomark _)) (pw_and (pt_cmpR op_gt (pe_callB call_len_seq (by rfl) T.b_len boot_len (pa_cons (pv 2) pa_nil)) pe_int (nomark _)) (pw_and1 (pt_cmpR op_gt (pe_ix ix_list (pv 2) (pe_op op_sub (pe_callB call_len_seq (by rfl) T.b_len boot_len (pa_cons (pv 2) pa_nil)) pe_int) (fun _ _ => rfl)) pe_int (nomark _)))))) (pss_cons (ps_expr (pe_bm0 PySem.F.plainAttrs_list PySem.F.slot_list_pop PySem.F.type_list_pop mt_pop (pv 2)))
      (pss_one (ps_set (i := 10) sc_l_plan_stop.nd rfl (by first | exact Or.inl rfl | exact Or.inr rfl) pe_bl))) (pss_one (ps_if (PW.pt (pw_or (pt_cmpR op_ne (pv 7) pe_str (nomark _)) (pw_or1 (pt_cmpR op_gt (pe_callB call_len_seq (by rfl) T.b_len boot_len (pa_cons (pv 2) pa_nil)) pe_int (nomark _))))) (pss_one (ps_ret (pv 6))) pss_nil)))))))))))))))
      (pss_cons (ps_if (pt_val (pv 10)) (pss_cons (ps_set (i := 4) sc_l_plan_stop.nd rfl (by first | exact Or.inl rfl | exact Or.inr rfl) pe_bl)
      (pss_one (ps_if (pt_cmpR op_gt (pe_callB call_len_seq (by rfl) T.b_len boot_len (pa_cons (pv 2) pa_nil)) pe_int (nomark _)) (pss_one (ps_augS (pv 2) (pe_op op_sub (pe_callB call_len_seq (by rfl) T.b_len boot_len (pa_cons (pv 2) pa_nil)) pe_int) get_list pe_int ip_add set_list)) pss_nil))) pss_nil)
      (pss_one (ps_set (i := 5) sc_l_plan_stop.nd rfl (by first | exact Or.inl rfl | exact Or.inr rfl) (pv 7)))))))))
      (pss_one (ps_ret (pe_un un_neg pe_int)))))))), ?_⟩
    wtm_at "rd"
    intro cp hcp
    wtm_at "rd"
    intro pp0 hpp0
    wtm_at "rd"
    have s0 : Same H (upd (upd H cp (.lst [])) pp0 (.lst [])) := (same_new hcp _).trans (same_new hpp0 _)
    have hzl : (sL (texts ts)).length = ts.length := by simp
    refine ⟨_, .inl (SqL.of (s0 _ _ htp)), by omega, by omega, ?_⟩
    rw [Int.toNat_natCast, hzl]
    obtain ⟨Pv, hPv⟩ := opq3 fun k σ H' => ∃ (m : MS) (pp : Addr) (u6 u7 u8 u10 : Option V), Same H H' ∧ pp ≠ cp ∧ H' cp = some (.lst (iL m.counts)) ∧ H' pp = some (.lst (sL m.pend)) ∧ m.counts.length ≤ k ∧ m.pend.length ≤ 3000 ∧
      mfail J ⟨[], [], true, []⟩ ts = mfail J m (ts.drop k) ∧ σ = [some (.ref jp), some (.ref tp), some (.ref cp), some (.ref pp), some (.bl m.begins), some (.str (S m.last)), u6, u7, u8, none, u10]
    have hne0 : pp0 ≠ cp := fun z => by rw [z, upd_same] at hpp0; cases hpp0
    refine forb (walk_range (lo := 0) (n := ts.length)) Pv ((hPv _ _ _).mpr ⟨⟨[], [], true, []⟩, pp0, none, none, none, none, s0, hne0, by rw [upd_ne hne0.symm, upd_same]; rfl, upd_same, by simp, by simp, rfl, rfl⟩) (fun _ _ _ _ => trivial) (fun k x σ H1 H2 hk pv y => ?_) (fun σ H1 pv => ?_)
    · obtain ⟨m, pp, u6, u7, u8, u10, hs, hne, hc, hp, hcl, hpl, hmf, rfl⟩ := (hPv _ _ _).mp pv
      obtain ⟨rfl, rfl⟩ := y
      obtain ⟨cs0, pd, bg, la⟩ := m
      dsimp only at hc hp hcl hpl hmf ⊢
      obtain ⟨⟨a, t⟩, hat⟩ : ∃ z, ts[k]? = some z := ⟨_, List.getElem?_eq_getElem hk⟩
      have htx : (sL (texts ts))[k]? = some (.str (S (txt t))) := by rw [List.getElem?_map, List.getElem?_map, hat]; rfl
      have hdr : ts.drop k = (a, t) :: ts.drop (k + 1) := by
        obtain ⟨hi, e⟩ := List.getElem?_eq_some_iff.mp hat
        rw [List.drop_eq_getElem_cons hi, e]
      have fail : mstep J ⟨cs0, pd, bg, la⟩ (txt t) = none → ∀ H', Same H H' → Q (.int (k : Int)) H' := fun e H' s' => by
        have e2 : stopI J ts = ((ts.length - (ts.drop k).length : Nat) : Int) := by
          unfold stopI
          rw [hmf, hdr, mfail_none e]
        have e3 : ts.length - (ts.drop k).length = k := by rw [List.length_drop]; omega
        rw [e3] at e2
        rw [← e2]
        exact q H' s'
      have step : ∀ m', mstep J ⟨cs0, pd, bg, la⟩ (txt t) = some m' → mfail J ⟨[], [], true, []⟩ ts = mfail J m' (ts.drop (k + 1)) := fun m' e => by
        rw [hmf, hdr, mfail_some e]
      wtm_at "rd"
      rw [Int.zero_add]
      refine ⟨_, SqL.of (hs _ _ htp), _, atI_nat htx, ?_⟩
      wtm_at "rd"
      refine ⟨_, SqT.of (hs _ _ hj1), _, rfl, _, rfl, ⟨_, SqT.of (hs _ _ hj2)⟩, ?_⟩
      refine lcb (walk_tup (xs := jxs)) (fun D i H' => ∃ as, H' = upd H2 D (.lst as) ∧ as.length ≤ i ∧ Paired (fun v a => Rep H (atomD a) v) as ((J.take i).filter fun a => decide (a.1 = txt t))) (fun D hD => ⟨[], rfl, by simp, by simp; exact .nil⟩) (fun D i H' hD e => ?_) (fun D i v H1' H3 hD hi e y => ?_) (fun D H' hD e => ?_)
      · obtain ⟨as, rfl, _⟩ := e
        exact SqT.of (by rw [upd_ne (ne_of_none (hs _ _ hj2) hD)]; exact hs _ _ hj2)
      · obtain ⟨as, rfl, hal, hap⟩ := e
        obtain ⟨rfl, hv⟩ := y
        obtain ⟨at_, h1, h2⟩ := aj hv
        obtain ⟨ap, aq, axs, rfl, h3, h4, h5⟩ := rep_atom h2
        have hJi : J.take (i + 1) = J.take i ++ [at_] := by
          obtain ⟨hi2, e2⟩ := List.getElem?_eq_some_iff.mp h1
          rw [← e2, List.take_append_getElem hi2]
        wtm_at "rd"
        refine ⟨_, SqT.of (by rw [upd_ne (ne_of_none (hs _ _ h3) hD)]; exact hs _ _ h3), _, rfl, rfl, ?_⟩
        refine ite2 (fun h => ?_) (fun h => ?_)
        · have h : at_.1 = txt t := S_inj (by injection h)
          refine ⟨as, upd_same, lt_line (by omega), as ++ [.ref ap], by rw [upd_upd], by simp; omega, ?_⟩
          rw [hJi, List.filter_append]
          refine pr_app hap ?_
          simp [h]
          exact .cons h2 .nil
        · have h : ¬ at_.1 = txt t := fun z => h (by rw [z])
          refine ⟨as, rfl, by omega, ?_⟩
          rw [hJi, List.filter_append]
          simp [h]
          exact hap
      · obtain ⟨as, rfl, hal, hap⟩ := e
        rw [List.take_of_length_le (by omega)] at hap
        have ff := findN_filter J (txt t)
        have s1 := hs.trans (same_new hD (.lst as))
        have hc1 : upd H2 D (.lst as) cp = some (.lst (iL cs0)) := by rw [upd_ne (ne_of_none hc hD)]; exact hc
        have hp1 : upd H2 D (.lst as) pp = some (.lst (sL pd)) := by rw [upd_ne (ne_of_none hp hD)]; exact hp
        have hD1 : upd H2 D (.lst as) D = some (.lst as) := upd_same
        have hDc : D ≠ cp := (ne_of_none hc hD).symm
        generalize upd H2 D (.lst as) = H3 at s1 hc1 hp1 hD1 ⊢
        obtain ⟨Mid, hMid⟩ : ∃ Mid : L2.St → Hp → Prop, ∀ σ H', Mid σ H' ↔ ∃ (cs : List Nat) (pend' : List (List Nat)) (b e : Bool) (pp' : Addr) (u8 : Option V), σ = [some (.ref jp), some (.ref tp), some (.ref cp), some (.ref pp'), some (.bl b), some (.str (S la)), some (.int (k : Int)), some (.str (S (txt t))), u8, none, some (.bl e)] ∧
          Same H H' ∧ pp' ≠ cp ∧ H' cp = some (.lst (iL cs)) ∧ H' pp' = some (.lst (sL pend')) ∧ cs.length ≤ k + 1 ∧ pend'.length ≤ 3000 ∧ mstep J ⟨cs0, pd, bg, la⟩ (txt t) = some ⟨if e = true then bump cs else cs, pend', if e = true then false else b, txt t⟩ := ⟨_, fun _ _ => Iff.rfl⟩
        wtm_at "rd"
        refine ⟨Mid, ⟨_, .inl (SqL.of hp1), ?_⟩, fun σ' H' hm => ?_⟩
        · cases pd with
          | cons q0 p0 =>
            refine ite2 (fun _ => ?_) (fun h => absurd (show (0 : Int) < ((sL (q0 :: p0)).length : Int) by rw [List.length_map, List.length_cons]; omega) h)
            refine ⟨_, SqL.of hp1, _, atI_nat (j := 0) rfl, rfl, ite2 (fun h => ?_) (fun h => ?_)⟩
            · refine fail ?_ _ s1
              show (if txt t = q0 then _ else none) = none
              rw [if_neg fun z => h (by rw [z])]
            · have h : txt t = q0 := S_inj (by have := Decidable.not_not.mp h; injection this)
              refine ⟨_, SqL.of hp1, fun p' hp' => ⟨_, .inl (SqL.of upd_same), ?_⟩⟩
              have s2 := same_new hp' (.lst (cutV (sL (q0 :: p0)) (some 1) none))
              have hpc : p' ≠ cp := (ne_of_none hc1 hp').symm
              refine (hMid _ _).mpr ⟨cs0, p0, bg, decide (((cutV (sL (q0 :: p0)) (some 1) none).length : Int) = 0), p', _, rfl, s1.trans s2, hpc, s2 _ _ hc1, by rw [upd_same, cut_tail], by omega, by simp at hpl; omega, ?_⟩
              show (if txt t = q0 then (if p0 = [] then _ else _) else none) = _
              rw [if_pos h, cut_tail]
              by_cases hz : p0 = []
              · subst hz; simp
              · have : ¬ ((sL p0).length : Int) = 0 := by simp; exact hz
                rw [if_neg hz, decide_eq_false this]; rfl
          | nil =>
            refine ite2 (fun h => absurd h (by simp)) (fun _ => ?_)
            have hms : mstep J ⟨cs0, [], bg, la⟩ (txt t) = (if la = [33] then (if isWord (txt t) = true then some ⟨cs0, [], bg, txt t⟩ else none)
              else if bg = true ∧ txt t = [91] then some ⟨0 :: cs0, [], true, txt t⟩
              else if bg = true then (match findN J (txt t) with
                | some (_, a) => some ⟨cs0, (pend a).map txt, true, txt t⟩
                | none => if txt t = [33] then some ⟨cs0, [], true, txt t⟩ else none)
              else if txt t = [42] ∧ cs0 ≠ [] then some ⟨cs0, [], true, txt t⟩
              else if txt t = [93] ∧ topBig cs0 = true then some ⟨bump cs0.tail, [], false, txt t⟩
              else if txt t ≠ [] ∨ cs0 ≠ [] then none else some ⟨cs0, [], false, txt t⟩) := rfl
            have stay : ∀ b, mstep J ⟨cs0, [], bg, la⟩ (txt t) = some ⟨cs0, [], b, txt t⟩ → Mid [some (.ref jp), some (.ref tp), some (.ref cp), some (.ref pp), some (.bl b), some (.str (S la)), some (.int (k : Int)), some (.str (S (txt t))), some (.ref D), none, some (.bl false)] H3 := fun b e =>
              (hMid _ _).mpr ⟨cs0, [], b, false, pp, _, rfl, s1, hne, hc1, hp1, by omega, by simp, e⟩
            refine ite2 (fun hl => ?_) (fun hl => ?_)
            · rw [if_pos hl] at hms
              refine ⟨txt t, rfl, _, rfl, ite2 (fun h => ?_) (fun h => ?_)⟩
              · exact fail (by rw [hms, if_neg (by rw [h]; decide)]) _ s1
              · exact stay _ (by rw [hms, if_pos (by simpa using h)])
            · rw [if_neg hl] at hms
              have hcl' : (iL cs0).length = cs0.length := by simp
              refine ite2 (fun hb => ?_) (fun hb => ?_)
              · generalize J.filter (fun a => decide (a.1 = txt t)) = fl at ff hap
                refine ite2 (fun ht => ?_) (fun ht => ?_)
                · rw [if_pos ⟨hb, ht⟩] at hms
                  refine ⟨tyL hc1, _, hc1, lt_line (by omega), (hMid _ _).mpr ⟨0 :: cs0, [], bg, false, pp, _, rfl, same_mut s1 hcp, hne, ?_, by rw [upd_ne hne]; exact hp1, by simp; omega, by simp, by rw [hms, hb]; rfl⟩⟩
                  rw [upd_same]
                  simp
                · rw [if_neg (fun z => ht z.2), if_pos hb] at hms
                  rw [if_pos hb]
                  refine ⟨_, .inl (SqL.of hD1), ?_⟩
                  cases hff : findN J (txt t) with
                  | none =>
                    rw [hff] at ff hms
                    have has : as = [] := by
                      cases hap with
                      | nil => rfl
                      | cons _ _ => simp at ff
                    refine ite2 (fun h => absurd h (by rw [has]; simp)) (fun _ => ?_)
                    rw [if_pos hb]
                    refine ite2 (fun h => ?_) (fun h => ?_)
                    · exact fail (by rw [hms]; exact if_neg h) _ s1
                    · have h := Decidable.not_not.mp h
                      have e : bg = true := hb
                      subst e
                      exact stay _ (by rw [hms]; exact if_pos h)
                  | some z =>
                    obtain ⟨z1, z2⟩ := z
                    rw [hff] at ff hms
                    obtain ⟨hm1, _, _⟩ := findN_mem hff
                    cases fl with
                    | nil => simp at ff
                    | cons z3 zr =>
                      have ez : z3 = z2 := by simpa using ff
                      subst ez
                      cases hap with
                      | cons hv hr =>
                        refine ite2 (fun _ => ?_) (fun h => absurd (by rw [List.length_cons]; omega) h)
                        refine ⟨_, SqL.of hD1, _, atI_nat (j := 0) rfl, z3, _, rfl, hv.kt (KT.same s1) _ _, hA z3 hm1, fun p2 H4 s2 hp2 hp2' => ?_⟩
                        refine ⟨_, rfl, _, SqL.of hp2', fun p' hp' => ?_⟩
                        have s3 := same_new hp' (.lst (cutV (sL (atT z3)) (some 1) none))
                        have hc4 := s2 _ _ hc1
                        refine (hMid _ _).mpr ⟨cs0, (pend z3).map txt, bg, false, p', _, rfl, (s1.trans s2).trans s3, (ne_of_none hc4 hp').symm, s3 _ _ hc4, ?_, by omega, ?_, ?_⟩
                        · rw [upd_same]
                          show some (HO.lst (cutV (sL (z3.1 :: (pend z3).map txt)) (some 1) none)) = _
                          rw [cut_tail]
                        · have := btw_len [44] (z3.2.map fun t => txt (tokOf t))
                          rw [← sepT_btw, List.length_map, List.length_map] at this
                          have hb2 := (hA z3 hm1).1
                          unfold pend
                          simp
                          omega
                        · rw [hms, hb]; rfl
              · rw [if_neg (fun z => hb z.1), if_neg hb] at hms
                have hbf : bg = false := by simpa using hb
                subst hbf
                have hff : ¬ (false = true) := by decide
                rw [if_neg hff, if_neg hff]
                have tail : mstep J ⟨cs0, [], false, la⟩ (txt t) = (if txt t ≠ [] ∨ cs0 ≠ [] then none else some ⟨cs0, [], false, txt t⟩) →
                    (if ¬ txt t = [] then Q (.int (k : Int)) H3 else ∃ x, (SqL K H3 cp x ∨ SqT K H3 cp x) ∧ if (0 : Int) < (x.length : Int) then Q (.int (k : Int)) H3 else
                      Mid [some (.ref jp), some (.ref tp), some (.ref cp), some (.ref pp), some (.bl false), some (.str (S la)), some (.int (k : Int)), some (.str (S (txt t))), some (.ref D), none, some (.bl false)] H3) := fun e => by
                  refine ite2 (fun h => ?_) (fun h => ⟨_, .inl (SqL.of hc1), ite2 (fun h2 => ?_) (fun h2 => ?_)⟩)
                  · exact fail (by rw [e, if_pos (.inl h)]) _ s1
                  · exact fail (by rw [e, if_pos (.inr fun z => by rw [z] at h2; simp at h2)]) _ s1
                  · refine stay _ ?_
                    rw [e, if_neg]
                    rintro (z | z)
                    · exact h z
                    · refine z ?_
                      cases cs0 with
                      | nil => rfl
                      | cons _ _ => exact absurd (by rw [hcl', List.length_cons]; omega) h2
                refine ite2 (fun h42 => ?_) (fun h42 => ?_)
                · refine ⟨_, .inl (SqL.of hc1), ite2 (fun h2 => ?_) (fun h2 => ?_)⟩
                  · refine stay _ ?_
                    rw [hms, if_pos ⟨h42, fun z => by rw [z] at h2; simp at h2⟩]
                  · have hcs : cs0 = [] := by
                      cases cs0 with
                      | nil => rfl
                      | cons _ _ => exact absurd (by rw [hcl', List.length_cons]; omega) h2
                    rw [if_neg (fun z => z.2 hcs), if_neg (fun z => by rw [h42] at z; exact absurd z.1 (by decide))] at hms
                    rw [if_neg (by rw [h42]; decide)]
                    exact tail hms
                · rw [if_neg (fun z => h42 z.1)] at hms
                  refine ite2 (fun h93 => ?_) (fun h93 => ?_)
                  · refine ⟨_, .inl (SqL.of hc1), ite2 (fun h2 => ?_) (fun h2 => ?_)⟩
                    · cases cs0 with
                      | nil => exact absurd h2 (by simp)
                      | cons c cr =>
                        have el : iL (c :: cr) = iL cr ++ [.int (c : Int)] := by simp
                        have hlast : (iL (c :: cr))[(iL (c :: cr)).length - 1]? = some (.int (c : Int)) := by rw [el]; simp
                        refine ⟨_, .inl (SqL.of hc1), _, SqL.of hc1, .int (c : Int), ?_, (c : Int), rfl, ite2 (fun h3 => ?_) (fun h3 => ?_)⟩
                        · have := atI_nat hlast
                          rw [show (((iL (c :: cr)).length - 1 : Nat) : Int) = ((iL (c :: cr)).length : Int) - 1 by rw [hcl', List.length_cons]; omega] at this
                          exact this
                        · have e : (iL (c :: cr)).dropLast = iL cr := by rw [el]; simp
                          refine ⟨tyL hc1, _, hc1, ⟨_, hlast⟩, (hMid _ _).mpr ⟨cr, [], false, true, pp, _, rfl, same_mut s1 hcp, hne, by rw [upd_same, e], by rw [upd_ne hne]; exact hp1, by simp at hcl; omega, by simp, ?_⟩⟩
                          rw [hms, if_pos ⟨h93, by simp [topBig]; omega⟩]
                          rfl
                        · rw [if_neg (fun z => h3 (by have := z.2; simp [topBig] at this; omega))] at hms
                          exact tail hms
                    · rw [if_neg (fun z => by
                        cases cs0 with
                        | nil => exact absurd z.2 (by simp [topBig])
                        | cons _ _ => exact absurd (by rw [hcl', List.length_cons]; omega) h2)] at hms
                      exact tail hms
                  · rw [if_neg (fun z => h93 z.1)] at hms
                    exact tail hms
        · obtain ⟨cs, pend', b, e, pp', u8', rfl, s2, hne2, hc2, hp2, hcl2, hpl2, hms⟩ := (hMid _ _).mp hm
          wtm_at "rd"
          refine ite2 (fun he => ?_) (fun he => ?_)
          · subst he
            refine ⟨_, .inl (SqL.of hc2), ?_⟩
            have hcl3 : (iL cs).length = cs.length := by simp
            cases cs with
            | nil =>
              refine ite2 (fun h => absurd h (by simp)) (fun _ => ?_)
              exact (hPv _ _ _).mpr ⟨_, pp', _, _, _, _, s2, hne2, hc2, hp2, by simp [bump], hpl2, step _ hms, rfl⟩
            | cons c cr =>
              refine ite2 (fun _ => ?_) (fun h => absurd (by rw [hcl3, List.length_cons]; omega) h)
              have el : iL (c :: cr) = iL cr ++ [.int (c : Int)] := by simp
              have hlen : (iL (c :: cr)).length = cr.length + 1 := by rw [hcl3, List.length_cons]
              have ht : (((iL (c :: cr)).length : Int) - 1) = (cr.length : Int) := by rw [hlen]; omega
              refine ⟨_, .inl (SqL.of hc2), _, SqL.of hc2, ?_⟩
              rw [ht]
              refine ⟨by omega, by simp at hcl2; omega, .int (c : Int), by rw [el]; simp, (c : Int), rfl, _, hc2, cr.length, ?_, ?_⟩
              · rw [hlen]
                unfold ixN
                rw [if_pos (by omega), if_pos (by omega), Int.toNat_natCast]
              · refine (hPv _ _ _).mpr ⟨_, pp', _, _, _, _, same_mut s2 hcp, hne2, ?_, by rw [upd_ne hne2]; exact hp2, by simp [bump]; simp at hcl2; omega, hpl2, step _ hms, rfl⟩
                rw [upd_same]
                show some (HO.lst _) = some (HO.lst (iL ((c + 1) :: cr)))
                rw [el]
                congr 2
                simp
          · have he : e = false := by simpa using he
            subst he
            exact (hPv _ _ _).mpr ⟨_, pp', _, _, _, _, s2, hne2, hc2, hp2, hcl2, hpl2, step _ hms, rfl⟩
    · obtain ⟨m, pp, u6, u7, u8, u10, hs, hne, hc, hp, hcl, hpl, hmf, rfl⟩ := (hPv _ _ _).mp pv
      wtm_at "rd"
      rw [List.drop_length] at hmf
      have e : stopI J ts = -1 := by unfold stopI; rw [hmf]; rfl
      rw [← e]
      exact q _ hs
end
end K26

end
section
set_option linter.all false
set_option maxRecDepth 100000
set_option maxHeartbeats 4000000
namespace K26
open PySem PySem.Spec PyProof.Rows L2
open SX (S S_len S_cat S_inj)
open PySem.NumText
local macro_rules | `(tactic| wtm_at "rd") => `(tactic| try simp only [tSeq, tAsg, tVar, tC, gName, tRet, tRetN, tIfS, tNext, tDrop, tOp, tUn, rI0, rI, rU, tTest, tB, tAnd, tOr, tNot, tAndV, tOrV, tNotV, tIf, tCB, tCons, tNil, tTup, tLst, tCall, tSl, tPart, tNoPart, tBM, tBM0, gTup, gCons, gNil, gSub, tAug, ipI, rEq, rNe, sc_ii, sc_ss, sc_bb, sc_nn, sc_is, sc_si, sc_ns, sc_sn, sc_ni, sc_in, z0, z1, z2, z3, z4, z5, if_true, if_false, Bool.not_eq_true', decide_eq_false_iff_not, rIxS, rSlS, rSlL, tAugS, rGetL, cast1, rIxL, rIxT, rSetL, rAppend, rPop, rPopAt, rReverse, rCat, tYes, iRng1, iRng2, tMkBad, rIn, tFld, sFld, sFldAug, rAdd, tMeth, tMake, tCallS, tBadF, tM1, iList, iTup, iEnum, iEnumT, iStr, tBreak, C8.tCut, tFor_eq, tLc_eq, wipe_1,
  L2.start, List.map_cons, List.map_nil, List.cons_append, List.nil_append, List.append_nil, List.length_cons, List.length_nil, Nat.reduceAdd, Nat.reduceSub, List.replicate_succ, List.replicate_zero,
  List.getElem?_cons_succ, List.getElem?_cons_zero, List.set_cons_succ, List.set_cons_zero, Option.some.injEq, V.int.injEq, V.str.injEq, V.ref.injEq, V.bl.injEq, List.cons.injEq, and_assoc, and_true, true_and, exists_eq_left', exists_eq_left, exists_and_left, exists_and_right, exists_eq, decide_eq_true_eq, reduceCtorEq, false_and, and_false, exists_false, false_or, or_false, S_len, S_eq, k0, k1, k2, k3, k4, k5, k6, k7, k8, k9, k10, k11, k12, k13, k14, k15, k16, k17, k18, k19, k20, k21, k22, k23, k24, k25, k26, k27, k28, k29, k30, k31, k32, k33, k34, k35, k36, k37, k38, k39, k40, k41, k42, k43, k44, k45, k46, k47, k48, k49, k50, k51, k52, k53, Nat.zero_add])

section
/-! ### the builder's stack -/
inductive StkR (H : Hp) : List Fr → List V → List Addr → Prop
  | nil : StkR H [] [] []
  | br {ps : List Pl} {st : List Fr} {vs : List V} {pls : List Addr} {f pl : Addr} {xs : List V} : H f = some (.lst [.str (S [91]), .ref pl]) → H pl = some (.lst xs) → Reps H (plansD ps) xs → StkR H st vs pls → StkR H (.br ps :: st) (.ref f :: vs) (pl :: pls)
  | bang {x : List Nat} {st : List Fr} {vs : List V} {pls : List Addr} {f : Addr} : H f = some (.lst [.str (S [33]), .str (S x)]) → StkR H st vs pls → StkR H (.bang x :: st) (.ref f :: vs) pls
/-- lists whose first item is no text -/
def NoStr (zs : List V) : Prop := ∀ s r, zs ≠ .str s :: r
theorem StkR.upd {H : Hp} {st : List Fr} {vs : List V} {pls : List Addr} {a : Addr} {zs : List V} {o : HO} (ha : H a = some (.lst zs)) (hz : NoStr zs) (h : StkR H st vs pls) (hp : a ∉ pls) : StkR (L2.upd H a o) st vs pls := by
  have kt : KT H (L2.upd H a o) := (KT.refl H).upd ha fun _ z => by cases z
  have fr : ∀ {f : Addr} {s : Str} {r : List V}, H f = some (.lst (.str s :: r)) → L2.upd H a o f = some (.lst (.str s :: r)) := fun {f s r} hf => by
    rw [upd_ne]
    · exact hf
    · intro e
      rw [e, ha] at hf
      injection hf with hf
      injection hf with hf
      exact hz _ _ hf
  induction h with
  | nil => exact .nil
  | br h1 h2 h3 h4 ih =>
    refine .br (fr h1) ?_ (Reps.kt kt _ _ h3) (ih fun z => hp (List.mem_cons_of_mem _ z))
    rw [upd_ne fun z => hp (by rw [← z]; exact List.mem_cons_self)]
    exact h2
  | bang h1 h2 ih => exact .bang (fr h1) (ih hp)
theorem StkR.same {H H' : Hp} {st : List Fr} {vs : List V} {pls : List Addr} (s : Same H H') (h : StkR H st vs pls) : StkR H' st vs pls := by
  induction h with
  | nil => exact .nil
  | br h1 h2 h3 h4 ih => exact .br (s _ _ h1) (s _ _ h2) (Reps.kt (KT.same s) _ _ h3) ih
  | bang h1 h2 ih => exact .bang (s _ _ h1) ih
theorem StkR.len {H : Hp} {st : List Fr} {vs : List V} {pls : List Addr} (h : StkR H st vs pls) : vs.length = st.length := by
  induction h with
  | nil => rfl
  | br _ _ _ _ ih => simp [ih]
  | bang _ _ ih => simp [ih]
theorem StkR.noStr {H : Hp} {st : List Fr} {vs : List V} {pls : List Addr} (h : StkR H st vs pls) : NoStr vs.reverse := by
  have all : ∀ v ∈ vs, ∃ a, v = .ref a := by
    induction h with
    | nil => simp
    | br _ _ _ _ ih => intro v hv; rcases List.mem_cons.mp hv with e | hv; exact ⟨_, e⟩; exact ih v hv
    | bang _ _ ih => intro v hv; rcases List.mem_cons.mp hv with e | hv; exact ⟨_, e⟩; exact ih v hv
  intro s r e
  obtain ⟨a, h⟩ := all (.str s) (by rw [← List.mem_reverse, e]; exact List.mem_cons_self)
  cases h
theorem rep_pl_ref {H : Hp} {p : Pl} {v : V} (h : Rep H (planD p) v) : ∃ a, v = .ref a := by
  cases p with
  | scan i => obtain ⟨a, _, e, _⟩ := h; exact ⟨a, e⟩
  | join ps => obtain ⟨a, _, e, _⟩ := h; exact ⟨a, e⟩
  | proj x p => obtain ⟨a, _, e, _⟩ := h; exact ⟨a, e⟩
theorem reps_noStr {H : Hp} {ps : List Pl} {xs : List V} (h : Reps H (plansD ps) xs) : NoStr xs := by
  intro s r e
  cases ps with
  | nil =>
    have : xs = [] := h
    rw [this] at e; cases e
  | cons p q =>
    obtain ⟨v, r', rfl, h1, _⟩ := h
    obtain ⟨a, rfl⟩ := rep_pl_ref h1
    cases e
/-- how many "!" stand on top -/
def bangs : List Fr → Nat
  | .bang _ :: s => bangs s + 1
  | _ => 0
theorem bangs_le (st : List Fr) : bangs st ≤ st.length := by
  induction st with
  | nil => simp [bangs]
  | cons f s ih => cases f <;> simp [bangs]; exact ih
theorem good_top {st : List Fr} (h : good st) (hb : bangs st = 0) : ∃ ps s, st = .br ps :: s := by
  cases st with
  | nil => exact h.elim
  | cons f s =>
    cases f with
    | br ps => exact ⟨ps, s, rfl⟩
    | bang x => simp [bangs] at hb
theorem StkR.pl {H : Hp} {st : List Fr} {vs : List V} {pls : List Addr} (h : StkR H st vs pls) : ∀ a ∈ pls, ∃ xs, H a = some (.lst xs) := by
  induction h with
  | nil => simp
  | br h1 h2 h3 h4 ih => intro a ha; rcases List.mem_cons.mp ha with e | ha; exact ⟨_, e ▸ h2⟩; exact ih a ha
  | bang h1 h2 ih => exact ih
/-- the stack as it stands -/
structure SI (H1 : Hp) (sp : Addr) (H' : Hp) (st : List Fr) (vs : List V) (pls : List Addr) : Prop where
  same : Same H1 H'
  at_ : H' sp = some (.lst vs.reverse)
  stk : StkR H' st vs pls
  nd : pls.Nodup
  ns : sp ∉ pls
  fr : ∀ a ∈ pls, H1 a = none
  fs : H1 sp = none
theorem SI.new {H1 H' : Hp} {sp p : Addr} {st : List Fr} {vs : List V} {pls : List Addr} (h : SI H1 sp H' st vs pls) (hp : H' p = none) (o : HO) : SI H1 sp (upd H' p o) st vs pls :=
  ⟨h.same.trans (same_new hp _), by rw [upd_ne (ne_of_none h.at_ hp)]; exact h.at_, h.stk.same (same_new hp _), h.nd, h.ns, h.fr, h.fs⟩
theorem SI.notin {H1 H' : Hp} {sp p : Addr} {st : List Fr} {vs : List V} {pls : List Addr} (h : SI H1 sp H' st vs pls) (hp : H' p = none) : p ∉ pls := fun z => by
  obtain ⟨xs, e⟩ := h.stk.pl p z
  rw [e] at hp; cases hp
theorem SI.none1 {H1 H' : Hp} {sp p : Addr} {st : List Fr} {vs : List V} {pls : List Addr} (h : SI H1 sp H' st vs pls) (hp : H' p = none) : H1 p = none := by
  cases e : H1 p with
  | none => rfl
  | some o => rw [h.same _ _ e] at hp; cases hp
theorem SI.pushBr {H1 H' : Hp} {sp p f : Addr} {st : List Fr} {vs : List V} {pls : List Addr} (h : SI H1 sp H' st vs pls) (hf : H' f = some (.lst [.str (S [91]), .ref p])) (hp : H' p = some (.lst [])) (h1 : H1 p = none) (h2 : p ∉ pls) (h3 : p ≠ sp) :
    SI H1 sp (upd H' sp (.lst (vs.reverse ++ [.ref f]))) (.br [] :: st) (.ref f :: vs) (p :: pls) := by
  have hfs : f ≠ sp := fun z => by
    rw [z, h.at_] at hf
    injection hf with hf
    injection hf with hf
    exact h.stk.noStr _ _ hf
  refine ⟨same_mut h.same h.fs, by rw [upd_same]; simp, .br (by rw [upd_ne hfs]; exact hf) (by rw [upd_ne h3]; exact hp) rfl (h.stk.upd h.at_ h.stk.noStr h.ns), List.nodup_cons.mpr ⟨h2, h.nd⟩, fun z => ?_, fun a ha => ?_, h.fs⟩
  · rcases List.mem_cons.mp z with e | z
    · exact h3 e.symm
    · exact h.ns z
  · rcases List.mem_cons.mp ha with e | ha
    · rw [e]; exact h1
    · exact h.fr a ha
theorem SI.pushBang {H1 H' : Hp} {sp f : Addr} {st : List Fr} {vs : List V} {pls : List Addr} {x : List Nat} (h : SI H1 sp H' st vs pls) (hf : H' f = some (.lst [.str (S [33]), .str (S x)])) :
    SI H1 sp (upd H' sp (.lst (vs.reverse ++ [.ref f]))) (.bang x :: st) (.ref f :: vs) pls := by
  have hfs : f ≠ sp := fun z => by
    rw [z, h.at_] at hf
    injection hf with hf
    injection hf with hf
    exact h.stk.noStr _ _ hf
  exact ⟨same_mut h.same h.fs, by rw [upd_same]; simp, .bang (by rw [upd_ne hfs]; exact hf) (h.stk.upd h.at_ h.stk.noStr h.ns), h.nd, h.ns, h.fr, h.fs⟩
theorem SI.popBr {H1 H' : Hp} {sp pl : Addr} {st : List Fr} {v : V} {vs : List V} {pls : List Addr} {ps : List Pl} (h : SI H1 sp H' (.br ps :: st) (v :: vs) (pl :: pls)) : SI H1 sp (upd H' sp (.lst vs.reverse)) st vs pls := by
  have hs : StkR H' st vs pls := by cases h.stk with | br _ _ _ h => exact h
  have hn : sp ∉ pls := fun z => h.ns (List.mem_cons_of_mem _ z)
  exact ⟨same_mut h.same h.fs, upd_same, hs.upd h.at_ h.stk.noStr hn, (List.nodup_cons.mp h.nd).2, hn, fun a ha => h.fr a (List.mem_cons_of_mem _ ha), h.fs⟩
theorem SI.popBang {H1 H' : Hp} {sp : Addr} {st : List Fr} {v : V} {vs : List V} {pls : List Addr} {x : List Nat} (h : SI H1 sp H' (.bang x :: st) (v :: vs) pls) : SI H1 sp (upd H' sp (.lst vs.reverse)) st vs pls := by
  have hs : StkR H' st vs pls := by cases h.stk with | bang _ h => exact h
  exact ⟨same_mut h.same h.fs, upd_same, hs.upd h.at_ h.stk.noStr h.ns, h.nd, h.ns, h.fr, h.fs⟩
theorem SI.app {H1 H' : Hp} {sp pl : Addr} {st : List Fr} {v y : V} {vs xs : List V} {pls : List Addr} {ps : List Pl} {d : Pl} (h : SI H1 sp H' (.br ps :: st) (v :: vs) (pl :: pls)) (hx : H' pl = some (.lst xs)) (hy : Rep H' (planD d) y) :
    SI H1 sp (upd H' pl (.lst (xs ++ [y]))) (.br (ps ++ [d]) :: st) (v :: vs) (pl :: pls) := by
  have hne : pl ≠ sp := fun z => h.ns (by rw [z]; exact List.mem_cons_self)
  have kt : KT H' (upd H' pl (.lst (xs ++ [y]))) := (KT.refl _).upd hx fun _ z => by cases z
  have hr : Reps H' (plansD ps) xs := by
    cases h.stk with
    | br _ h2 h3 _ => rw [hx] at h2; cases h2; exact h3
  refine ⟨same_mut h.same (h.fr pl List.mem_cons_self), by rw [upd_ne hne.symm]; exact h.at_, ?_, h.nd, h.ns, h.fr, h.fs⟩
  cases h.stk with
  | br h1 h2 h3 h4 =>
    have hfp : ∀ {f : Addr}, H' f = some (.lst [.str (S [91]), .ref pl]) → f ≠ pl := fun {f} h z => by
      rw [z, hx] at h
      injection h with h
      injection h with h
      exact reps_noStr hr _ _ h
    refine .br (by rw [upd_ne (hfp h1)]; exact h1) upd_same ?_ (h4.upd hx (reps_noStr hr) (List.nodup_cons.mp h.nd).1)
    rw [plansD_app]
    exact reps_app (Reps.kt kt _ _ hr) ⟨y, [], rfl, Rep.kt kt _ _ hy, rfl⟩
/-- plans that wait on the stack -/
def psz : List Fr → Nat
  | [] => 0
  | .br ps :: s => ps.length + psz s
  | .bang _ :: s => psz s
theorem brun_inv {J : Body} {prev t : List Nat} {s x : List Fr × Nat} {r : List (List Nat)} (h : brun J prev s (t :: r) = some x) : ∃ s', bstep J prev t (r.headD []) s = some s' ∧ brun J t s' r = some x := by
  rw [brun] at h
  cases e : bstep J prev t (r.headD []) s with
  | none => rw [e] at h; cases h
  | some s' => rw [e] at h; exact ⟨s', rfl, h⟩
variable {P : Program} {w : World} {K : PySem.W.Frag} {mg : Str → Option Value} {base : Heap} {CB fI : Addr}
def spPlanOf : Sp := fun vs H Q _ => ∃ (jv : V) (tp : Addr) (J : Body) (tx : List (List Nat)) (p : Pl) (i : Nat), vs = [jv, .ref tp] ∧ Rep H (joinD J) jv ∧ JB J ∧ OkJ J ∧ H tp = some (.lst (sL tx)) ∧ tx.length ≤ 1000001 ∧ brun J [] ([.br []], 0) tx = some ([.br [p]], i) ∧ ∀ H' v, Same H H' → Rep H' (planD p) v → Q v H'
abbrev sc_l_plan_of_N : List Str := ["_law_join", "_law_texts", "_law_names", "_law_atom_here", "_law_stack", "_law_index", "_law_k", "_law_done", "_law_j", "_law_parts"]
abbrev sc_l_plan_of_P : List Str := ["_law_join", "_law_texts"]
abbrev sc_l_plan_of_s : Scope := defScope s_l_plan_of
theorem sc_l_plan_of : FnScope sc_l_plan_of_N sc_l_plan_of_P sc_l_plan_of_s := ⟨rfl, rfl, rfl, by decide +kernel, rfl, by decide +kernel, by decide +kernel⟩

theorem ok_plan_of (T : Txt K mg) : Cal P w K mg base CX0 1 "_law_plan_of" spPlanOf := by
  refine cal0 T.f_l_plan_of T.g_l_plan_of sc_l_plan_of (fun _ _ _ _ _ _ us hl => match us, hl with | [_, _], _ => rfl) (fun vs H Q E h => ?_) (fun cdv A outer s H vs Q E hr h => ?_)
  · obtain ⟨jv, tp, J, tx, p, i, rfl, _⟩ := h; rfl
  · obtain ⟨jv, tp, J, tx, pl, fi, rfl, hJ, hB, hO, htp, hts, hbr, q⟩ := h
    obtain ⟨jp, je, jq, jxs, rfl, hj1, hj2, hj3⟩ := rep_join hJ
    have hjl : jxs.length = J.length := by rw [reps_len hj3, List.length_map]
    have hB' : J.length ≤ 1000 := hB
    have aj : ∀ {i : Nat} {v : V}, jxs[i]? = some v → ∃ at_, J[i]? = some at_ ∧ Rep H (atomD at_) v := fun {i v} e => by
      obtain ⟨d, h1, h2⟩ := reps_of hj3 e
      rw [List.getElem?_map] at h1
      obtain ⟨b, h3, rfl⟩ := Option.map_eq_some_iff.mp h1
      exact ⟨b, h3, h2⟩
    refine ⟨_, (pss_cons (ps_setLc (i := 2) (own := [("_law_atom_here", 3)]) (g := gName 3) (tt := tYes) rfl sc_l_plan_of.nd rfl rfl (sw_true rfl rfl rfl (by decide +kernel)) (pi_tup (pe_ix ix_tup (pv 0) pe_int (fun _ _ => rfl))) (blkOk_by (own := [("_law_atom_here", 3)]) (N := sc_l_plan_of_N) (sc := sc_l_plan_of_s) (by decide +kernel)) (fun _ _ _ _ _ => pg_name (i := 3) sc_l_plan_of.nd rfl (Or.inl rfl)) (fun _ _ _ _ _ => pts_nil) (fun _ _ _ _ _ => (pe_ix (kx_tup (K := K) rfl) (pv 3) pe_int (fun _ _ => rfl))))
      (pss_cons (ps_set (i := 4) sc_l_plan_of.nd rfl (by first | exact Or.inl rfl | exact Or.inr rfl) (pe_lst (pa_cons (pe_lst (pa_cons pe_str (pa_cons (pe_lst pa_nil) pa_nil))) pa_nil)))
      (pss_cons (ps_set (i := 5) sc_l_plan_of.nd rfl (by first | exact Or.inl rfl | exact Or.inr rfl) pe_int)
      (pss_cons (ps_for PassesOwn.never rfl (pi_range1 (by rfl) T.b_range (pa_cons (pe_callB call_len_seq (by rfl) T.b_len boot_len (pa_cons (pv 1) pa_nil)) pa_nil)) (pg_name (i := 6) sc_l_plan_of.nd rfl (by first | exact Or.inl rfl | exact Or.inr rfl)) (pss_cons (ps_set (i := 7) sc_l_plan_of.nd rfl (by first | exact Or.inl rfl | exact Or.inr rfl) pe_non)
      (C8.pss_cut (ps_if (pt_cmpR op_eq (pe_ix ix_list (pv 1) (pv 6) (fun _ _ => rfl)) pe_str (nomark _)) (pss_one (ps_expr (pe_bm PySem.F.plainAttrs_list PySem.F.slot_list_append PySem.F.type_list_append mt_append (pv 4) (pa_cons (pe_lst (pa_cons pe_str (pa_cons (pe_ix ix_list (pv 1) (pe_op op_add (pv 6) pe_int) (fun _ _ => rfl)) pa_nil))) pa_nil)))) (pss_one (ps_if (pt_cmpR op_eq (pe_ix ix_list (pv 1) (pv 6) (fun _ _ => rfl)) pe_str (nomark _)) (pss_one (ps_expr (pe_bm PySem.F.plainAttrs_list PySem.F.slot_list_append PySem.F.type_list_append mt_append (pv 4) (pa_cons (pe_lst (pa_cons pe_str (pa_cons (pe_lst pa_nil) pa_nil))) pa_nil)))) (pss_one (ps_if (pt_cmpR op_eq (pe_ix ix_list (pv 1) (pv 6) (fun _ _ => rfl)) pe_str (nomark _)) (pss_one (ps_set (i := 5) sc_l_plan_of.nd rfl (by first | exact Or.inl rfl | exact Or.inr rfl) (pe_bm PySem.F.plainAttrs_list PySem.F.slot_list_index PySem.F.type_list_index mt_index (pv 2) (pa_cons (pe_ix ix_list (pv 1) (pe_op op_sub (pv 6) pe_int) (fun _ _ => rfl)) pa_nil)))) (pss_one (ps_if (pt_cmpR op_eq (pe_ix ix_list (pv 1) (pv 6) (fun _ _ => rfl)) pe_str (nomark _)) (pss_one (ps_set (i := 7) sc_l_plan_of.nd rfl (by first | exact Or.inl rfl | exact Or.inr rfl) (pe_tup (pa_cons pe_str (pa_cons (pv 5) pa_nil))))) (pss_one (ps_if (pt_cmpR op_eq (pe_ix ix_list (pv 1) (pv 6) (fun _ _ => rfl)) pe_str (nomark _)) (pss_one (ps_set (i := 7) sc_l_plan_of.nd rfl (by first | exact Or.inl rfl | exact Or.inr rfl) (pe_tup (pa_cons pe_str (pa_cons (pe_callTy call_tuple_of (by rfl) T.b_tuple boot_tuple_ (pa_cons (pe_ix ix_list (pe_bm0 PySem.F.plainAttrs_list PySem.F.slot_list_pop PySem.F.type_list_pop mt_pop (pv 4)) pe_int (fun _ _ => rfl)) pa_nil)) pa_nil))))) pss_nil)))))))))
      (pss_one (ps_if (pt_cmpR op_notN (pv 7) pe_non (nomark _)) (pss_cons (ps_for PassesOwn.never rfl (pi_range1 (by rfl) T.b_range (pa_cons (pe_callB call_len_seq (by rfl) T.b_len boot_len (pa_cons (pv 4) pa_nil)) pa_nil)) (pg_name (i := 8) sc_l_plan_of.nd rfl (by first | exact Or.inl rfl | exact Or.inr rfl)) (pss_one (ps_if (pt_cmpR op_eq (pe_ix ix_list (pe_ix ix_list (pv 4) (pe_op op_sub (pe_callB call_len_seq (by rfl) T.b_len boot_len (pa_cons (pv 4) pa_nil)) pe_int) (fun _ _ => rfl)) pe_int (fun _ _ => rfl)) pe_str (nomark _)) (pss_one (ps_set (i := 7) sc_l_plan_of.nd rfl (by first | exact Or.inl rfl | exact Or.inr rfl) (pe_tup (pa_cons pe_str (pa_cons (pe_ix ix_list (pe_bm0 PySem.F.plainAttrs_list PySem.F.slot_list_pop PySem.F.type_list_pop mt_pop (pv 4)) pe_int (fun _ _ => rfl)) (pa_cons (pv 7) pa_nil)))))) pss_nil)))
      (pss_cons (ps_set (i := 9) sc_l_plan_of.nd rfl (by first | exact Or.inl rfl | exact Or.inr rfl) (pe_ix ix_list (pe_ix ix_list (pv 4) (pe_op op_sub (pe_callB call_len_seq (by rfl) T.b_len boot_len (pa_cons (pv 4) pa_nil)) pe_int) (fun _ _ => rfl)) pe_int (fun _ _ => rfl)))
      (pss_one (ps_expr (pe_bm PySem.F.plainAttrs_list PySem.F.slot_list_append PySem.F.type_list_append mt_append (pv 9) (pa_cons (pv 7) pa_nil)))))) pss_nil)))))
      (pss_one (ps_ret (pe_ix ix_list (pe_ix ix_list (pe_ix ix_list (pv 4) pe_int (fun _ _ => rfl)) pe_int (fun _ _ => rfl)) pe_int (fun _ _ => rfl)))))))), ?_⟩
    wtm_at "rd"
    refine ⟨_, SqT.of hj1, _, rfl, _, rfl, ⟨_, SqT.of hj2⟩, ?_⟩
    refine lcb (walk_tup (xs := jxs)) (fun D i H' => H' = upd H D (.lst ((J.map fun a => V.str (S a.1)).take i))) (fun D hD => rfl) (fun D i H' hD e => ?_) (fun D i v H1 H2 hD hi e y => ?_) (fun D H' hD e => ?_)
    · rw [e]; exact SqT.of (by rw [upd_ne (ne_of_none hj2 hD)]; exact hj2)
    · obtain ⟨rfl, hv⟩ := y
      subst e
      obtain ⟨at_, h1, h2⟩ := aj hv
      obtain ⟨ap, aq, axs, rfl, h3, h4, h5⟩ := rep_atom h2
      wtm_at "rd"
      refine ⟨_, SqT.of (by rw [upd_ne (ne_of_none h3 hD)]; exact h3), _, rfl, ?_⟩
      exact acc_next (by rw [List.getElem?_map, h1]; rfl) (by rw [List.length_map]; omega) (fun H' => H' = _) rfl
    · rw [List.take_of_length_le (by rw [List.length_map, hjl]; exact Nat.le_refl _)] at e
      subst e
      have sH : Same H (upd H D (.lst (J.map fun a => V.str (S a.1)))) := same_new hD _
      have hD1 : upd H D (.lst (J.map fun a => V.str (S a.1))) D = some (.lst (J.map fun a => V.str (S a.1))) := upd_same
      generalize upd H D (.lst (J.map fun a => V.str (S a.1))) = H1 at sH hD1 ⊢
      intro p0 hp0 f0 hf0 sp hsp
      have hzl : (sL tx).length = tx.length := by simp
      have s3 : Same H1 (upd (upd (upd H1 p0 (.lst [])) f0 (.lst [.str (S [91]), .ref p0])) sp (.lst [.ref f0])) := ((same_new hp0 _).trans (same_new hf0 _)).trans (same_new hsp _)
      have si0 : SI H1 sp (upd (upd (upd H1 p0 (.lst [])) f0 (.lst [.str (S [91]), .ref p0])) sp (.lst [.ref f0])) [.br []] [.ref f0] [p0] := by
        have hps : p0 ≠ sp := fun z => by rw [z] at hsp; rw [upd_ne (fun e => by rw [← e, z] at hf0; rw [upd_same] at hf0; cases hf0), upd_same] at hsp; cases hsp
        refine ⟨s3, upd_same, .br ((same_new hsp _) _ _ upd_same) ((same_new hsp _) _ _ ((same_new hf0 _) _ _ upd_same)) rfl .nil, by simp, by simp; exact fun z => hps z.symm, by simp; exact hp0, ?_⟩
        cases e : H1 sp with
        | none => rfl
        | some o => rw [((same_new hp0 _).trans (same_new hf0 _)) _ _ e] at hsp; cases hsp
      refine ⟨_, .inl (SqL.of (s3 _ _ (sH _ _ htp))), by omega, by omega, ?_⟩
      rw [Int.toNat_natCast, hzl]
      obtain ⟨Pv, hPv⟩ := opq3 fun k σ H' => ∃ (st : List Fr) (vs : List V) (pls : List Addr) (idx : Nat) (prev : List Nat) (u6 u7 u8 u9 : Option V), SI H1 sp H' st vs pls ∧ good st ∧ st.length ≤ k + 1 ∧ psz st ≤ k ∧ brun J prev (st, idx) (tx.drop k) = some ([.br [pl]], fi) ∧ (k = 0 → prev = []) ∧ (∀ j, k = j + 1 → tx[j]? = some prev) ∧
        σ = [some (.ref jp), some (.ref tp), some (.ref D), none, some (.ref sp), some (.int (idx : Int)), u6, u7, u8, u9]
      refine forb (walk_range (lo := 0) (n := tx.length)) Pv ((hPv _ _ _).mpr ⟨_, _, _, 0, [], none, none, none, none, si0, trivial, by simp, by simp [psz], hbr, fun _ => rfl, fun j e => by omega, rfl⟩) (fun _ _ _ _ => trivial) (fun k x σ H2 H3 hk pv y => ?_) (fun σ H2 pv => ?_)
      · obtain ⟨st, vs, pls, idx, prev, u6, u7, u8, u9, si, hg, hsl, hpz, hrun, hpr0, hpr1, rfl⟩ := (hPv _ _ _).mp pv
        obtain ⟨rfl, rfl⟩ := y
        obtain ⟨t, hat⟩ : ∃ t, tx[k]? = some t := ⟨_, List.getElem?_eq_getElem hk⟩
        have htx : (sL tx)[k]? = some (.str (S t)) := by rw [List.getElem?_map, hat]; rfl
        have hdr : tx.drop k = t :: tx.drop (k + 1) := by
          obtain ⟨hi, e⟩ := List.getElem?_eq_some_iff.mp hat
          rw [List.drop_eq_getElem_cons hi, e]
        rw [hdr] at hrun
        obtain ⟨⟨st2, idx2⟩, hbs, hrun2⟩ := brun_inv hrun
        clear hrun
        unfold bstep at hbs
        have htp3 : H3 tp = some (.lst (sL tx)) := si.same _ _ (sH _ _ htp)
        have hD3 := si.same _ _ hD1
        wtm_at "rd"
        rw [Int.zero_add]
        obtain ⟨Mid, hMid⟩ : ∃ Mid : L2.St → Hp → Prop, ∀ σ H', Mid σ H' ↔ ∃ (st1 : List Fr) (vs1 : List V) (pls1 : List Addr) (idx1 : Nat) (dv : V) (u8 u9 : Option V), σ = [some (.ref jp), some (.ref tp), some (.ref D), none, some (.ref sp), some (.int (idx1 : Int)), some (.int (k : Int)), some dv, u8, u9] ∧ SI H1 sp H' st1 vs1 pls1 ∧ good st1 ∧ st1.length ≤ k + 2 ∧ psz st1 ≤ k ∧
          ((dv = .non ∧ brun J t (st1, idx1) (tx.drop (k + 1)) = some ([.br [pl]], fi)) ∨ (∃ d, Rep H' (planD d) dv ∧ brun J t (attach d st1, idx1) (tx.drop (k + 1)) = some ([.br [pl]], fi))) := ⟨_, fun _ _ => Iff.rfl⟩
        refine ⟨Mid, ?_, fun σ' H' hm => ?_⟩
        · have hvl := si.stk.len
          have rd : ∀ {R : V → Prop}, R (.str (S t)) → ∃ xs, SqL K H3 tp xs ∧ ∃ v, atI xs (k : Int) = some v ∧ R v := fun {R} h => ⟨_, SqL.of htp3, _, atI_nat htx, h⟩
          have mid : ∀ (H' : Hp) (st1 : List Fr) (vs1 : List V) (pls1 : List Addr) (dv : V), SI H1 sp H' st1 vs1 pls1 → good st1 → st1.length ≤ k + 2 → psz st1 ≤ k →
              ((dv = .non ∧ brun J t (st1, idx) (tx.drop (k + 1)) = some ([.br [pl]], fi)) ∨ (∃ d, Rep H' (planD d) dv ∧ brun J t (attach d st1, idx) (tx.drop (k + 1)) = some ([.br [pl]], fi))) →
              Mid [some (.ref jp), some (.ref tp), some (.ref D), none, some (.ref sp), some (.int (idx : Int)), some (.int (k : Int)), some dv, u8, u9] H' := fun H' st1 vs1 pls1 dv a b c d e => (hMid _ _).mpr ⟨st1, vs1, pls1, idx, dv, u8, u9, rfl, a, b, c, d, e⟩
          refine rd ⟨rfl, ite2 (fun h => ?_) (fun h => rd ⟨rfl, ite2 (fun h91 => ?_) (fun h91 => rd ⟨rfl, ite2 (fun h40 => ?_) (fun h40 => rd ⟨rfl, ite2 (fun h41 => ?_) (fun h41 => rd ⟨rfl, ite2 (fun h93 => ?_) (fun h93 => ?_)⟩)⟩)⟩)⟩)⟩
          · have h : t = [33] := S_inj (by injection h)
            rw [if_pos h] at hbs
            cases hbs
            cases hnx : tx.drop (k + 1) with
            | nil => rw [hnx] at hrun2; cases hrun2
            | cons n r =>
              have hn : tx[k + 1]? = some n := by
                have := congrArg (·[0]?) hnx
                simpa using this
              refine ⟨tyL si.at_, _, SqL.of htp3, _, atI_nat (j := k + 1) (by rw [List.getElem?_map, hn]; rfl), fun f hf => ?_⟩
              have si2 := si.new hf (.lst [.str (S [33]), .str (S n)])
              rw [hnx] at hrun2 mid
              refine ⟨_, si2.at_, lt_line (by rw [List.length_reverse]; omega), mid _ _ _ _ _ (si2.pushBang upd_same) hg (by simp; omega) hpz (.inl ⟨rfl, hrun2⟩)⟩
          · have h : ¬ t = [33] := fun z => h (by rw [z])
            have h91 : t = [91] := S_inj (by injection h91)
            rw [if_neg h, if_pos h91] at hbs
            cases hbs
            refine ⟨tyL si.at_, fun p hp f hf => ?_⟩
            have si2 := (si.new hp (.lst [])).new hf (.lst [.str (S [91]), .ref p])
            have hpf : p ≠ f := fun z => by rw [← z, upd_same] at hf; cases hf
            have hps : p ≠ sp := fun z => by rw [z, si.at_] at hp; cases hp
            refine ⟨_, si2.at_, lt_line (by rw [List.length_reverse]; omega), mid _ _ _ _ _ (si2.pushBr upd_same (by rw [upd_ne hpf]; exact upd_same) (si.none1 hp) (si.notin hp) hps) trivial (by simp; omega) (by simpa [psz] using hpz) (.inl ⟨rfl, hrun2⟩)⟩
          · have h : ¬ t = [33] := fun z => h (by rw [z])
            have h91 : ¬ t = [91] := fun z => h91 (by rw [z])
            have h40 : t = [40] := S_inj (by injection h40)
            rw [if_neg h, if_neg h91, if_pos h40] at hbs
            obtain ⟨⟨j, at_⟩, hf, e⟩ := Option.map_eq_some_iff.mp hbs
            cases e
            cases k with
            | zero =>
              rw [hpr0 rfl, findN_none hO (by decide)] at hf
              cases hf
            | succ k0 =>
              have hp := hpr1 k0 rfl
              refine ⟨tyL hD3, _, SqL.of htp3, .str (S prev), ?_, ?_⟩
              · rw [show (((k0 + 1 : Nat) : Int) - 1) = (k0 : Int) by omega]
                exact atI_nat (by rw [List.getElem?_map, hp]; rfl)
              · refine ⟨D, _, .str (S prev), j, _, rfl, rfl, SqL.of hD3, rfl, names_flat J, (names_at hf).1, by show (S prev == S prev) = true; rw [SX.S_beq]; simp, (names_at hf).2, ?_⟩
                exact (hMid _ _).mpr ⟨st, vs, pls, j, .non, u8, u9, rfl, si, hg, by omega, hpz, .inl ⟨rfl, hrun2⟩⟩
          · have h : ¬ t = [33] := fun z => h (by rw [z])
            have h91 : ¬ t = [91] := fun z => h91 (by rw [z])
            have h40 : ¬ t = [40] := fun z => h40 (by rw [z])
            have h41 : t = [41] := S_inj (by injection h41)
            rw [if_neg h, if_neg h91, if_neg h40, if_pos h41] at hbs
            obtain ⟨s', hs', e⟩ := Option.map_eq_some_iff.mp hbs
            obtain ⟨_, rfl⟩ := att_some hs'
            cases e
            intro p hp
            exact mid _ _ _ _ _ (si.new hp _) hg (by omega) hpz (.inr ⟨.scan idx, ⟨p, _, rfl, upd_same, _, _, rfl, rfl, _, _, rfl, rfl, rfl⟩, hrun2⟩)
          · have h : ¬ t = [33] := fun z => h (by rw [z])
            have h91 : ¬ t = [91] := fun z => h91 (by rw [z])
            have h40 : ¬ t = [40] := fun z => h40 (by rw [z])
            have h41 : ¬ t = [41] := fun z => h41 (by rw [z])
            have h93 : t = [93] := S_inj (by injection h93)
            rw [if_neg h, if_neg h91, if_neg h40, if_neg h41, if_pos h93] at hbs
            cases st with
            | nil => exact hg.elim
            | cons f0 s0 =>
              cases f0 with
              | bang x => cases hbs
              | br ps =>
                obtain ⟨s', hs', e⟩ := Option.map_eq_some_iff.mp (show Option.map _ (att (.join ps) s0) = some _ from hbs)
                obtain ⟨hg0, rfl⟩ := att_some hs'
                cases e
                have hst := si.stk
                cases hst with
                | @br _ _ vs0 pls0 f1 pl1 xs1 q1 q2 q3 q4 =>
                  have hrv : (V.ref f1 :: vs0).reverse = vs0.reverse ++ [V.ref f1] := by simp
                  have hat := si.at_
                  have si2 := si.popBr
                  have hsz : psz s0 ≤ k := by simp [psz] at hpz; omega
                  have hps : pl1 ≠ sp := fun z => si.ns (by rw [z]; exact List.mem_cons_self)
                  have hfs : f1 ≠ sp := fun z => by
                    rw [z, si.at_] at q1
                    injection q1 with q1
                    injection q1 with q1
                    exact si.stk.noStr _ _ q1
                  refine ⟨tyL hat, _, hat, _, by rw [hrv]; simp; rfl, ?_⟩
                  rw [hrv, List.dropLast_concat]
                  refine ⟨_, rfl, _, SqL.of (by rw [upd_ne hfs]; exact q1), _, rfl, pl1, rfl, xs1, .inl ⟨SqL.of (by rw [upd_ne hps]; exact q2), fun l hl p hp => ?_⟩⟩
                  have kt : KT H3 (upd (upd (upd H3 sp (.lst vs0.reverse)) l (.tup xs1)) p (.tup [.str (S [106, 111, 105, 110]), .ref l])) := (((KT.refl H3).upd hat fun _ z => by cases z).new hl).new hp
                  exact mid _ _ _ _ _ ((si2.new hl _).new hp _) hg0 (by simp at hsl; omega) hsz (.inr ⟨.join ps, ⟨p, _, rfl, upd_same, _, _, rfl, rfl, _, _, rfl, ⟨l, xs1, rfl, (same_new hp _) _ _ upd_same, Reps.kt kt _ _ q3⟩, rfl⟩, hrun2⟩)
          · have h : ¬ t = [33] := fun z => h (by rw [z])
            have h91 : ¬ t = [91] := fun z => h91 (by rw [z])
            have h40 : ¬ t = [40] := fun z => h40 (by rw [z])
            have h41 : ¬ t = [41] := fun z => h41 (by rw [z])
            have h93 : ¬ t = [93] := fun z => h93 (by rw [z])
            rw [if_neg h, if_neg h91, if_neg h40, if_neg h41, if_neg h93] at hbs
            cases hbs
            exact mid _ _ _ _ _ si hg (by omega) hpz (.inl ⟨rfl, hrun2⟩)
        · obtain ⟨st1, vs1, pls1, idx1, dv, u8, u9, rfl, si1, hg1, hsl1, hpz1, hcase⟩ := (hMid _ _).mp hm
          wtm_at "rd"
          have done : ∀ (st' : List Fr) (vs' : List V) (pls' : List Addr) (u7 u8 u9 : Option V) (H2 : Hp), SI H1 sp H2 st' vs' pls' → good st' → st'.length ≤ k + 2 → psz st' ≤ k + 1 → brun J t (st', idx1) (tx.drop (k + 1)) = some ([.br [pl]], fi) →
              Pv (k + 1) [some (.ref jp), some (.ref tp), some (.ref D), none, some (.ref sp), some (.int (idx1 : Int)), some (.int (k : Int)), u7, u8, u9] H2 := fun st' vs' pls' u7 u8 u9 H2 a b c d e =>
            (hPv _ _ _).mpr ⟨st', vs', pls', idx1, t, _, u7, u8, u9, a, b, c, d, e, fun z => by omega, fun j z => by cases z; exact hat, rfl⟩
          rcases hcase with ⟨rfl, hrun3⟩ | ⟨d, hd, hrun3⟩
          · refine ite2 (fun h => absurd rfl h) (fun _ => ?_)
            exact done _ _ _ _ _ _ _ si1 hg1 hsl1 (by omega) hrun3
          · obtain ⟨da, rfl⟩ := rep_pl_ref hd
            refine ite2 (fun _ => ?_) (fun h => absurd (by intro z; cases z) h)
            have hvl := si1.stk.len
            have hrl : vs1.reverse.length = st1.length := by rw [List.length_reverse, hvl]
            refine ⟨_, .inl (SqL.of si1.at_), by omega, by omega, ?_⟩
            rw [Int.toNat_natCast, hrl]
            obtain ⟨Pw, hPw⟩ := opq3 fun j σ H2 => ∃ (st' : List Fr) (vs' : List V) (pls' : List Addr) (d' : Pl) (v' : V) (u8 : Option V), SI H1 sp H2 st' vs' pls' ∧ good st' ∧ attach d' st' = attach d st1 ∧ Rep H2 (planD d') v' ∧ bangs st' ≤ st1.length - j ∧ st'.length ≤ k + 2 ∧ psz st' ≤ k ∧
              σ = [some (.ref jp), some (.ref tp), some (.ref D), none, some (.ref sp), some (.int (idx1 : Int)), some (.int (k : Int)), some v', u8, u9]
            refine forb (walk_range (lo := 0) (n := st1.length)) Pw ((hPw _ _ _).mpr ⟨st1, vs1, pls1, d, _, u8, si1, hg1, rfl, hd, bangs_le _, hsl1, hpz1, rfl⟩) (fun _ _ _ _ => trivial) (fun j x σ H2 H4 hj pv y => ?_) (fun σ H2 pv => ?_)
            · obtain ⟨st', vs', pls', d', v', u8', si2, hg2, hatt, hd2, hbg, hl2, hz2, rfl⟩ := (hPw _ _ _).mp pv
              obtain ⟨rfl, rfl⟩ := y
              wtm_at "rd"
              rw [Int.zero_add]
              refine ⟨_, .inl (SqL.of si2.at_), _, SqL.of si2.at_, ?_⟩
              have hst := si2.stk
              have hat2 := si2.at_
              have top : ∀ {v : V} {vs : List V}, atI (v :: vs).reverse (((v :: vs).reverse.length : Int) - 1) = some v := fun {v vs} => by
                have : ((v :: vs).reverse)[vs.length]? = some v := by simp
                have := atI_nat this
                rw [show ((vs.length : Nat) : Int) = (((v :: vs).reverse.length : Int) - 1) by simp] at this
                exact this
              cases hst with
              | nil => exact hg2.elim
              | @br ps s vs0 pls0 f1 pl1 xs1 q1 q2 q3 q4 =>
                refine ⟨_, top, _, rfl, _, SqL.of q1, _, rfl, rfl, ?_⟩
                refine ite2 (fun h => absurd (S_inj (by injection h)) (by decide)) (fun _ => ?_)
                exact (hPw _ _ _).mpr ⟨_, _, _, d', v', _, si2, hg2, hatt, hd2, by simp [bangs], hl2, hz2, rfl⟩
              | @bang x s vs0 pls0 f1 q1 q2 =>
                refine ⟨_, top, _, rfl, _, SqL.of q1, _, rfl, rfl, ?_⟩
                refine ite2 (fun _ => ?_) (fun h => absurd rfl h)
                have hrv : (V.ref f1 :: vs0).reverse = vs0.reverse ++ [V.ref f1] := by simp
                have hfs : f1 ≠ sp := fun z => by
                  rw [z, si2.at_] at q1
                  injection q1 with q1
                  injection q1 with q1
                  exact si2.stk.noStr _ _ q1
                have si3 := si2.popBang
                refine ⟨tyL hat2, _, hat2, _, by rw [hrv]; simp; rfl, ?_⟩
                rw [hrv, List.dropLast_concat]
                refine ⟨_, rfl, _, SqL.of (by rw [upd_ne hfs]; exact q1), _, rfl, fun p hp => ?_⟩
                have kt : KT H4 (upd (upd H4 sp (.lst vs0.reverse)) p (.tup [.str (S [112, 114, 111, 106, 101, 99, 116]), .str (S x), v'])) := ((KT.refl H4).upd hat2 fun _ z => by cases z).new hp
                refine (hPw _ _ _).mpr ⟨s, vs0, pls', .proj x d', _, _, si3.new hp _, hg2, hatt, ⟨p, _, rfl, upd_same, _, _, rfl, rfl, _, _, rfl, rfl, _, _, rfl, Rep.kt kt _ _ hd2, rfl⟩, by simp [bangs] at hbg; omega, by simp at hl2; omega, hz2, rfl⟩
            · obtain ⟨st', vs', pls', d', v', u8', si2, hg2, hatt, hd2, hbg, hl2, hz2, rfl⟩ := (hPw _ _ _).mp pv
              obtain ⟨ps, s, rfl⟩ := good_top hg2 (by omega)
              have hst := si2.stk
              have hat2 := si2.at_
              cases hst with
              | @br _ _ vs0 pls0 f1 pl1 xs1 q1 q2 q3 q4 =>
                have top : atI (V.ref f1 :: vs0).reverse (((V.ref f1 :: vs0).reverse.length : Int) - 1) = some (.ref f1) := by
                  have : ((V.ref f1 :: vs0).reverse)[vs0.length]? = some (V.ref f1) := by simp
                  have := atI_nat this
                  rw [show ((vs0.length : Nat) : Int) = (((V.ref f1 :: vs0).reverse.length : Int) - 1) by simp] at this
                  exact this
                wtm_at "rd"
                have hxl : xs1.length = ps.length := by rw [reps_len q3, plansD_len]
                refine ⟨_, .inl (SqL.of hat2), _, SqL.of hat2, _, top, _, rfl, _, SqL.of q1, _, rfl, ?_⟩
                refine ⟨tyL q2, _, rfl, _, q2, lt_line (by simp [psz] at hz2; omega), ?_⟩
                rw [← hatt] at hrun3
                exact done _ _ _ _ _ _ _ (si2.app q2 hd2) trivial (by simpa using hl2) (by simp [psz] at hz2 ⊢; omega) hrun3
      · obtain ⟨st, vs, pls, idx, prev, u6, u7, u8, u9, si, hg, hsl, hpz, hrun, hpr0, hpr1, rfl⟩ := (hPv _ _ _).mp pv
        rw [List.drop_length] at hrun
        have e : st = [.br [pl]] := by
          have : some (st, idx) = some ([.br [pl]], fi) := hrun
          cases this
          rfl
        subst e
        have hst := si.stk
        cases hst with
        | br h1 h2 h3 h4 =>
          cases h4
          obtain ⟨v, r', e1, hv, e2⟩ := h3
          have e2 : r' = [] := e2
          subst e1 e2
          wtm_at "rd"
          refine ⟨_, SqL.of si.at_, _, atI_nat (j := 0) rfl, _, rfl, _, SqL.of h1, _, rfl, _, rfl, _, SqL.of h2, _, atI_nat (j := 0) rfl, ?_⟩
          exact q _ _ (sH.trans si.same) hv
end
end K26

end
section
set_option linter.all false
set_option maxRecDepth 100000
set_option maxHeartbeats 4000000
namespace K26
open PySem PySem.Spec PyProof.Rows L2
open SX (S S_len S_cat S_inj)
open PySem.NumText
local macro_rules | `(tactic| wtm_at "rd") => `(tactic| try simp only [tSeq, tAsg, tVar, tC, gName, tRet, tRetN, tIfS, tNext, tDrop, tOp, tUn, rI0, rI, rU, tTest, tB, tAnd, tOr, tNot, tAndV, tOrV, tNotV, tIf, tCB, tCons, tNil, tTup, tLst, tCall, tSl, tPart, tNoPart, tBM, tBM0, gTup, gCons, gNil, gSub, tAug, ipI, rEq, rNe, sc_ii, sc_ss, sc_bb, sc_nn, sc_is, sc_si, sc_ns, sc_sn, sc_ni, sc_in, z0, z1, z2, z3, z4, z5, if_true, if_false, Bool.not_eq_true', decide_eq_false_iff_not, rIxS, rSlS, rSlL, tAugS, rGetL, cast1, rIxL, rIxT, rSetL, rAppend, rPop, rPopAt, rReverse, rCat, tYes, iRng1, iRng2, tMkBad, rIn, tFld, sFld, sFldAug, rAdd, tMeth, tMake, tCallS, tBadF, tM1, iList, iTup, iEnum, iEnumT, iStr, tBreak, C8.tCut, tFor_eq, tLc_eq, wipe_1,
  L2.start, List.map_cons, List.map_nil, List.cons_append, List.nil_append, List.append_nil, List.length_cons, List.length_nil, Nat.reduceAdd, Nat.reduceSub, List.replicate_succ, List.replicate_zero,
  List.getElem?_cons_succ, List.getElem?_cons_zero, List.set_cons_succ, List.set_cons_zero, Option.some.injEq, V.int.injEq, V.str.injEq, V.ref.injEq, V.bl.injEq, List.cons.injEq, and_assoc, and_true, true_and, exists_eq_left', exists_eq_left, exists_and_left, exists_and_right, exists_eq, decide_eq_true_eq, reduceCtorEq, false_and, and_false, exists_false, false_or, or_false, S_len, S_eq, k0, k1, k2, k3, k4, k5, k6, k7, k8, k9, k10, k11, k12, k13, k14, k15, k16, k17, k18, k19, k20, k21, k22, k23, k24, k25, k26, k27, k28, k29, k30, k31, k32, k33, k34, k35, k36, k37, k38, k39, k40, k41, k42, k43, k44, k45, k46, k47, k48, k49, k50, k51, k52, k53, Nat.zero_add])

section
mutual
def dep : D → Nat
  | .i _ => 0
  | .s _ => 0
  | .t ds => depL ds + 1
def depL : List D → Nat
  | [] => 0
  | d :: ds => max (dep d) (depL ds)
end
theorem dep_mem : ∀ {ds : List D} {d : D}, d ∈ ds → dep d ≤ depL ds
  | d :: ds, e, h => by
    rcases List.mem_cons.mp h with z | z
    · rw [z]; show dep d ≤ max (dep d) (depL ds); omega
    · have := dep_mem z
      show dep e ≤ max (dep d) (depL ds); omega
theorem isiT_ok {K : PySem.W.Frag} {H : Hp} {x : V} {tp : Addr} {tn : String} {b1 b2 : Bool} {Q : VK} (ht : H tp = some (.tup [.ty "tuple", .ty "list"])) (h : TyX K H x (.type tn)) (e1 : kitB tn "tuple" = some b1) (e2 : kitB tn "list" = some b2) (q : Q (.bl (b1 || b2)) H) : rIsiT K [x, .ref tp] H Q := by
  refine ⟨x, tp, _, .type tn, [.type "tuple", .type "list"], b1 || b2, rfl, ht, .cons (.ty _) (.cons (.ty _) .nil), h, ?_, q⟩
  refine kitAny_cons (kit_ty e1) (fun h1 => kitAny_cons (kit_ty e2) (fun h2 => ?_) fun h2 => ?_) fun h1 => ?_
  · rw [h1, h2]; rfl
  · rw [h1, h2]; rfl
  · rw [h1]; rfl
/-- the class of what a D stands for -/
def dTy : D → String
  | .i _ => "int"
  | .s _ => "str"
  | .t _ => "tuple"
theorem rep_ty {K : PySem.W.Frag} {H : Hp} {d : D} {v : V} (h : Rep H d v) : TyX K H v (.type (dTy d)) := by
  cases d with
  | i n => have h : v = .int n := h; subst h; exact .base (.int _)
  | s u => have h : v = .str (S u) := h; subst h; exact .base (.str _)
  | t ds => obtain ⟨a, xs, rfl, h1, _⟩ := h; exact .base (.tup h1)
mutual
def wd : D → Nat
  | .i _ => 0
  | .s _ => 0
  | .t ds => max ds.length (wdL ds)
def wdL : List D → Nat
  | [] => 0
  | d :: ds => max (wd d) (wdL ds)
end
theorem wd_mem : ∀ {ds : List D} {d : D}, d ∈ ds → wd d ≤ wdL ds
  | d :: ds, e, h => by
    rcases List.mem_cons.mp h with z | z
    · rw [z]; show wd d ≤ max (wd d) (wdL ds); omega
    · have := wd_mem z
      show wd e ≤ max (wd d) (wdL ds); omega
theorem kb_it : kitB "int" "tuple" = some false := by decide +kernel
theorem kb_il : kitB "int" "list" = some false := by decide +kernel
theorem kb_ib : kitB "int" "bool" = some false := by decide +kernel
theorem kb_ii : kitB "int" "int" = some true := by decide +kernel
theorem kb_st : kitB "str" "tuple" = some false := by decide +kernel
theorem kb_sl : kitB "str" "list" = some false := by decide +kernel
theorem kb_sb : kitB "str" "bool" = some false := by decide +kernel
theorem kb_si : kitB "str" "int" = some false := by decide +kernel
theorem kb_tt : kitB "tuple" "tuple" = some true := by decide +kernel
theorem kb_tl : kitB "tuple" "list" = some false := by decide +kernel
theorem isi2 {K : PySem.W.Frag} {H : Hp} {va vd : V} {tn c : String} {b : Bool} {F R : Hp → Prop} (ha : TyX K H va (.type tn)) (hd : TyX K H vd (.type tn)) (e : kitB tn c = some b) (r : R H) :
    rIsi K [va, .ty c] H fun x H1 => rIsi K [vd, .ty c] H1 fun y H2 => scal x y = true ∧ if ¬ x = y then F H2 else R H2 :=
  isi_ok ha e (isi_ok hd e ⟨rfl, by rw [if_neg (fun z => z rfl)]; exact r⟩)
variable {P : Program} {w : World} {K : PySem.W.Frag} {mg : Str → Option Value} {base : Heap} {CB fI : Addr}
def dLen : D → Prop
  | _ => True
def spSame (k : Nat) : Sp := fun vs H Q _ => ∃ (va vd : V) (d : D), vs = [va, vd] ∧ Rep H d va ∧ Rep H d vd ∧ dep d < k ∧ wd d ≤ 10000000 ∧ (∀ H', Same H H' → Q (.bl true) H')
abbrev sc_l_same_N : List Str := ["_law_actual", "_law_due", "_law_k"]
abbrev sc_l_same_P : List Str := ["_law_actual", "_law_due"]
abbrev sc_l_same_s : Scope := defScope s_l_same
theorem sc_l_same : FnScope sc_l_same_N sc_l_same_P sc_l_same_s := ⟨rfl, rfl, rfl, by decide +kernel, rfl, by decide +kernel, by decide +kernel⟩

theorem ok_same (T : Txt K mg) : ∀ k, Cal P w K mg base CX0 (k + 1) "_law_same" (spSame k)
| 0 => by
  refine cal0 T.f_l_same T.g_l_same sc_l_same (fun _ _ _ _ _ _ us hl => match us, hl with | [_, _], _ => rfl) (fun vs H Q E h => ?_) (fun cdv A outer s H vs Q E hr h => ?_)
  · obtain ⟨va, vd, d, rfl, _⟩ := h; rfl
  · obtain ⟨va, vd, d, rfl, h1, h2, h3, _, q⟩ := h
    omega
| k + 1 => by
  have c_l_same : Cal P w K mg base CX0 (k + 1) "_law_same" (spSame k) := ok_same T k
  refine cal0 T.f_l_same T.g_l_same sc_l_same (fun _ _ _ _ _ _ us hl => match us, hl with | [_, _], _ => rfl) (fun vs H Q E h => ?_) (fun cdv A outer s H vs Q E hr h => ?_)
  · obtain ⟨va, vd, d, rfl, _⟩ := h; rfl
  · obtain ⟨va, vd, d, rfl, h1, h2, h3, hw, q⟩ := h
    refine ⟨_, (pss_cons (ps_if (pt_val (pe_callB (kx_isiT (K := K) rfl) (by rfl) T.b_isinstance boot_isinstance_ (pa_cons (pv 1) (pa_cons (pe_tup (pa_cons (pe_tyN T.b_tuple boot_tuple_) (pa_cons (pe_tyN T.b_list boot_list_) pa_nil))) pa_nil)))) (pss_cons (ps_if (PW.pt (pw_or (pt_cmpR op_ne (pe_callB (kx_isi (K := K) rfl) (by rfl) T.b_isinstance boot_isinstance_ (pa_cons (pv 0) (pa_cons (pe_tyN T.b_tuple boot_tuple_) pa_nil))) (pe_callB (kx_isi (K := K) rfl) (by rfl) T.b_isinstance boot_isinstance_ (pa_cons (pv 1) (pa_cons (pe_tyN T.b_tuple boot_tuple_) pa_nil))) (nomark _)) (pw_or1 (pt_cmpR op_ne (pe_callB (kx_isi (K := K) rfl) (by rfl) T.b_isinstance boot_isinstance_ (pa_cons (pv 0) (pa_cons (pe_tyN T.b_list boot_list_) pa_nil))) (pe_callB (kx_isi (K := K) rfl) (by rfl) T.b_isinstance boot_isinstance_ (pa_cons (pv 1) (pa_cons (pe_tyN T.b_list boot_list_) pa_nil))) (nomark _))))) (pss_one (ps_ret pe_bl)) pss_nil)
      (pss_cons (ps_if (pt_cmpR op_ne (pe_callB call_len (by rfl) T.b_len boot_len (pa_cons (pv 0) pa_nil)) (pe_callB call_len (by rfl) T.b_len boot_len (pa_cons (pv 1) pa_nil)) (nomark _)) (pss_one (ps_ret pe_bl)) pss_nil)
      (pss_one (ps_ret (pe_cmpR op_notIn_seq pe_bl (pe_lc (own := [("_law_k", 2)]) (g := gName 2) (tt := tYes) rfl sc_l_same.nd (pi_range1 (by rfl) T.b_range (pa_cons (pe_callB call_len (by rfl) T.b_len boot_len (pa_cons (pv 1) pa_nil)) pa_nil)) (blkOk_by (own := [("_law_k", 2)]) (N := sc_l_same_N) (sc := sc_l_same_s) (by decide +kernel)) (fun _ _ _ _ _ => pg_name (i := 2) sc_l_same.nd rfl (Or.inl rfl)) (fun _ _ _ _ _ => pts_nil) (fun _ _ _ _ _ => (pe_c c_l_same hr (pa_cons (pe_ix (kx_seq (K := K) rfl) (pv 0) (pv 2) (fun _ _ => rfl)) (pa_cons (pe_ix (kx_seq (K := K) rfl) (pv 1) (pv 2) (fun _ _ => rfl)) pa_nil)) (by omega)))) rfl))))) pss_nil)
      (pss_cons (ps_if (PW.pt (pw_or (pt_cmpR op_ne (pe_callB (kx_isi (K := K) rfl) (by rfl) T.b_isinstance boot_isinstance_ (pa_cons (pv 0) (pa_cons (pe_tyN T.b_bool boot_bool_) pa_nil))) (pe_callB (kx_isi (K := K) rfl) (by rfl) T.b_isinstance boot_isinstance_ (pa_cons (pv 1) (pa_cons (pe_tyN T.b_bool boot_bool_) pa_nil))) (nomark _)) (pw_or1 (pt_cmpR op_ne (pe_callB (kx_isi (K := K) rfl) (by rfl) T.b_isinstance boot_isinstance_ (pa_cons (pv 0) (pa_cons (pe_tyN T.b_int boot_int_) pa_nil))) (pe_callB (kx_isi (K := K) rfl) (by rfl) T.b_isinstance boot_isinstance_ (pa_cons (pv 1) (pa_cons (pe_tyN T.b_int boot_int_) pa_nil))) (nomark _))))) (pss_one (ps_ret pe_bl)) pss_nil)
      (pss_cons (ps_if (PW.pt (pw_or (pt_cmpR op_ne (pe_callB (kx_isi (K := K) rfl) (by rfl) T.b_isinstance boot_isinstance_ (pa_cons (pv 0) (pa_cons (pe_tyN T.b_str boot_str_) pa_nil))) (pe_callB (kx_isi (K := K) rfl) (by rfl) T.b_isinstance boot_isinstance_ (pa_cons (pv 1) (pa_cons (pe_tyN T.b_str boot_str_) pa_nil))) (nomark _)) (pw_or1 (pt_cmpR op_ne (pe_cmpR op_isN (pv 0) pe_non (nomark _)) (pe_cmpR op_isN (pv 1) pe_non (nomark _)) (nomark _))))) (pss_one (ps_ret pe_bl)) pss_nil)
      (pss_one (ps_ret (pe_cmpR op_eq (pv 0) (pv 1) (nomark _))))))), ?_⟩
    wtm_at "rd"
    intro tp htp
    have s1 := same_new htp (.tup [.ty "tuple", .ty "list"])
    have r1 := h1.kt (KT.same s1) _ _
    have r2 := h2.kt (KT.same s1) _ _
    cases d with
    | i n =>
      refine isiT_ok upd_same (rep_ty r2) kb_it kb_il ⟨_, rfl, ?_⟩
      rw [if_neg (by decide)]
      refine isi2 (rep_ty r1) (rep_ty r2) kb_ib (isi2 (rep_ty r1) (rep_ty r2) kb_ii (isi2 (rep_ty r1) (rep_ty r2) kb_is ?_))
      have e1 : va = .int n := h1
      have e2 : vd = .int n := h2
      subst e1 e2
      wtm_at "rd"
      exact q _ s1
    | s u =>
      refine isiT_ok upd_same (rep_ty r2) kb_st kb_sl ⟨_, rfl, ?_⟩
      rw [if_neg (by decide)]
      refine isi2 (rep_ty r1) (rep_ty r2) kb_sb (isi2 (rep_ty r1) (rep_ty r2) kb_si (isi2 (rep_ty r1) (rep_ty r2) kb_ss ?_))
      have e1 : va = .str (S u) := h1
      have e2 : vd = .str (S u) := h2
      subst e1 e2
      wtm_at "rd"
      exact q _ s1
    | t ds =>
      refine isiT_ok upd_same (rep_ty r2) kb_tt kb_tl ⟨_, rfl, ?_⟩
      rw [if_pos (by decide)]
      refine isi2 (rep_ty r1) (rep_ty r2) kb_tt (isi2 (rep_ty r1) (rep_ty r2) kb_tl ?_)
      obtain ⟨pa, xs, rfl, hx, hxr⟩ := r1
      obtain ⟨pd, ys, rfl, hy, hyr⟩ := r2
      have hxl := reps_len hxr
      have hyl := reps_len hyr
      generalize upd H tp (.tup [.ty "tuple", .ty "list"]) = H1 at s1 hx hxr hy hyr ⊢
      have hw' : ds.length ≤ 10000000 := Nat.le_trans (Nat.le_max_left _ _) hw
      refine ⟨_, .inr ⟨xs, SqT.of hx, rfl⟩, _, .inr ⟨ys, SqT.of hy, rfl⟩, ?_⟩
      rw [if_neg (by rw [hxl, hyl]; exact fun z => z rfl)]
      refine ⟨_, .inr ⟨ys, SqT.of hy, rfl⟩, by omega, by omega, ?_⟩
      rw [Int.toNat_natCast, hyl]
      refine lcb (walk_range (lo := 0) (n := ds.length)) (fun D i H' => Same H1 H' ∧ ∃ n, n ≤ i ∧ H' D = some (.lst (List.replicate n (.bl true)))) (fun D hD => ⟨same_new hD _, 0, by omega, upd_same⟩) (fun _ _ _ _ _ => trivial) (fun D i x H' H2 hD hi pv y => ?_) (fun D H' hD pv => ?_)
      · obtain ⟨s2, n, hn, hDn⟩ := pv
        obtain ⟨rfl, rfl⟩ := y
        obtain ⟨d, hd⟩ : ∃ d, ds[i]? = some d := ⟨_, List.getElem?_eq_getElem hi⟩
        obtain ⟨x, hx1, hx2⟩ := reps_get hxr hd
        obtain ⟨z, hz1, hz2⟩ := reps_get hyr hd
        have hmem := List.mem_of_getElem? hd
        have hdd := dep_mem hmem
        have hwd := wd_mem hmem
        wtm_at "rd"
        rw [Int.zero_add]
        refine .inr (.inl ⟨pa, xs, (i : Int), x, rfl, rfl, SqT.of (s2 _ _ hx), atI_nat hx1, ?_⟩)
        refine .inr (.inl ⟨pd, ys, (i : Int), z, rfl, rfl, SqT.of (s2 _ _ hy), atI_nat hz1, ?_⟩)
        refine ⟨x, z, d, rfl, hx2.kt (KT.same s2) _ _, hz2.kt (KT.same s2) _ _, ?_, Nat.le_trans (Nat.le_trans hwd (Nat.le_max_right _ _)) hw, fun H3 s3 => ?_⟩
        · have : dep (.t ds) = depL ds + 1 := rfl
          omega
        · refine ⟨_, s3 _ _ hDn, lt_line (by rw [List.length_replicate]; omega), same_mut (s2.trans s3) hD, n + 1, by omega, ?_⟩
          rw [upd_same, ← List.replicate_succ']
      · obtain ⟨s2, n, hn, hDn⟩ := pv
        refine ⟨D, rfl, _, .inl (SqL.of hDn), rfl, ?_, ?_⟩
        · rw [List.all_eq_true]
          intro x hx
          rw [(List.mem_replicate.mp hx).2]
          rfl
        · have e : inV (.bl false) (List.replicate n (.bl true)) = false := by
            unfold inV
            rw [List.any_eq_false]
            intro x hx
            rw [(List.mem_replicate.mp hx).2]
            decide
          rw [e]
          exact q _ (s1.trans s2)
end
end K26

end
section
set_option linter.all false
set_option maxRecDepth 100000
set_option maxHeartbeats 4000000
namespace K26
open PySem PySem.Spec PyProof.Rows L2
open SX (S S_len S_cat S_inj)
open PySem.NumText
local macro_rules | `(tactic| wtm_at "rd") => `(tactic| try simp only [tSeq, tAsg, tVar, tC, gName, tRet, tRetN, tIfS, tNext, tDrop, tOp, tUn, rI0, rI, rU, tTest, tB, tAnd, tOr, tNot, tAndV, tOrV, tNotV, tIf, tCB, tCons, tNil, tTup, tLst, tCall, tSl, tPart, tNoPart, tBM, tBM0, gTup, gCons, gNil, gSub, tAug, ipI, rEq, rNe, sc_ii, sc_ss, sc_bb, sc_nn, sc_is, sc_si, sc_ns, sc_sn, sc_ni, sc_in, z0, z1, z2, z3, z4, z5, if_true, if_false, Bool.not_eq_true', decide_eq_false_iff_not, rIxS, rSlS, rSlL, tAugS, rGetL, cast1, rIxL, rIxT, rSetL, rAppend, rPop, rPopAt, rReverse, rCat, tYes, iRng1, iRng2, tMkBad, rIn, tFld, sFld, sFldAug, rAdd, tMeth, tMake, tCallS, tBadF, tM1, iList, iTup, iEnum, iEnumT, iStr, tBreak, C8.tCut, tFor_eq, tLc_eq, wipe_1,
  L2.start, List.map_cons, List.map_nil, List.cons_append, List.nil_append, List.append_nil, List.length_cons, List.length_nil, Nat.reduceAdd, Nat.reduceSub, List.replicate_succ, List.replicate_zero,
  List.getElem?_cons_succ, List.getElem?_cons_zero, List.set_cons_succ, List.set_cons_zero, Option.some.injEq, V.int.injEq, V.str.injEq, V.ref.injEq, V.bl.injEq, List.cons.injEq, and_assoc, and_true, true_and, exists_eq_left', exists_eq_left, exists_and_left, exists_and_right, exists_eq, decide_eq_true_eq, reduceCtorEq, false_and, and_false, exists_false, false_or, or_false, S_len, S_eq, k0, k1, k2, k3, k4, k5, k6, k7, k8, k9, k10, k11, k12, k13, k14, k15, k16, k17, k18, k19, k20, k21, k22, k23, k24, k25, k26, k27, k28, k29, k30, k31, k32, k33, k34, k35, k36, k37, k38, k39, k40, k41, k42, k43, k44, k45, k46, k47, k48, k49, k50, k51, k52, k53, Nat.zero_add])

section
theorem depL_app (a b : List D) : depL (a ++ b) = max (depL a) (depL b) := by
  induction a with
  | nil => show _ = max 0 _; simp
  | cons d a ih => show max (dep d) (depL (a ++ b)) = max (max (dep d) (depL a)) _; rw [ih]; omega
theorem wdL_app (a b : List D) : wdL (a ++ b) = max (wdL a) (wdL b) := by
  induction a with
  | nil => show _ = max 0 _; simp
  | cons d a ih => show max (wd d) (wdL (a ++ b)) = max (max (wd d) (wdL a)) _; rw [ih]; omega
theorem scan_out {J : Body} {r r' : List TT} {p : Pl} (h : readScan J r = .ok p r') : ∃ i, p = .scan i := by
  unfold readScan at h
  split at h
  · split at h
    · split at h
      · cases h; exact ⟨_, rfl⟩
      · cases h
    · cases h
  · cases h
theorem more_bnd {J : Body} (hJ : OkJ J) {n L : Nat} (hn : ∀ r p r', Wf r → opens r < n → r.length ≤ L → readNode J n r = .ok p r' → dep (planD p) ≤ 2 * n ∧ wd (planD p) ≤ L + 3) : ∀ (m : Nat) (acc : List Pl) (r : List TT) (p : Pl) (r' : List TT), Wf r → opens r < n → acc.length + r.length ≤ L → depL (plansD acc) ≤ 2 * n → wdL (plansD acc) ≤ L + 3 → readMore (readNode J n) m acc r = .ok p r' →
    dep (planD p) ≤ 2 * n + 2 ∧ wd (planD p) ≤ L + 3
  | 0, acc, r, p, r', _, _, _, _, _, h => by cases h
  | m + 1, acc, r, p, r', hr, ho, hl, hd, hw, h => by
    obtain ⟨a, t, r1, rfl⟩ := hr.ne
    by_cases h42 : t = .sg 42
    · subst h42
      have ht := hr.tail nofun nofun
      have ho1 := Nat.lt_of_le_of_lt (opens_suf (List.suffix_cons (a, Tk.sg 42) r1)) ho
      have h : (match readNode J n r1 with
        | .ok p r'' => readMore (readNode J n) m (acc ++ [p]) r''
        | .err e => .err e) = .ok p r' := h
      have sp := node_spec hJ n r1 ht ho1
      cases hx : readNode J n r1 with
      | err e => rw [hx] at h; cases h
      | ok p0 r2 =>
        rw [hx] at h sp
        obtain ⟨i1, i2, i3, _⟩ := sp
        simp only [List.length_cons] at hl
        obtain ⟨b1, b2⟩ := hn r1 p0 r2 ht ho1 (by omega) hx
        refine more_bnd hJ hn m (acc ++ [p0]) r2 p r' i1 (Nat.lt_of_le_of_lt (opens_suf i3) ho1) (by rw [List.length_append]; simp; omega) ?_ ?_ h
        · rw [plansD_app, depL_app]
          show max _ (max (dep (planD p0)) 0) ≤ _
          omega
        · rw [plansD_app, wdL_app]
          show max _ (max (wd (planD p0)) 0) ≤ _
          omega
    · by_cases h93 : t = .sg 93
      · subst h93
        have h : (if acc.length < 2 then Res.err ((a, Tk.sg 93) :: r1) else .ok (.join acc) r1) = .ok p r' := h
        split at h
        · cases h
        · cases h
          refine ⟨?_, ?_⟩
          · show max 0 (max (depL (plansD acc) + 1) 0) + 1 ≤ _
            omega
          · show max 2 (max 0 (max (max (plansD acc).length (wdL (plansD acc))) 0)) ≤ _
            rw [plansD_len]
            omega
      · rw [readMore_else h42 h93] at h
        cases h
theorem node_bnd {J : Body} (hJ : OkJ J) {L : Nat} : ∀ (n : Nat) (r : List TT) (p : Pl) (r' : List TT), Wf r → opens r < n → r.length ≤ L → readNode J n r = .ok p r' → dep (planD p) ≤ 2 * n ∧ wd (planD p) ≤ L + 3
  | 0, r, _, _, _, h, _, _ => by omega
  | n + 1, r, p, r', hr, ho, hl, h => by
    obtain ⟨a, t, r1, rfl⟩ := hr.ne
    simp only [List.length_cons] at hl
    by_cases h33 : t = .sg 33
    · subst h33
      have ho' : opens r1 < n := by
        have : opens ((a, Tk.sg 33) :: r1) = opens r1 + 1 := by simp [opens, isOpen]
        omega
      have ht := hr.tail nofun nofun
      obtain ⟨a2, t2, r2, rfl⟩ := ht.ne
      simp only [List.length_cons] at hl
      by_cases hw : ∃ u, t2 = .wd u
      · obtain ⟨u, rfl⟩ := hw
        have h : (match readNode J n r2 with
          | .ok p e => .ok (.proj u p) e
          | .err e => .err e) = Res.ok p r' := h
        cases hx : readNode J n r2 with
        | err e => rw [hx] at h; cases h
        | ok p0 e =>
          rw [hx] at h
          cases h
          obtain ⟨b1, b2⟩ := node_bnd hJ (L := L) n r2 p0 _ (ht.tail nofun nofun) (Nat.lt_of_le_of_lt (opens_suf (List.suffix_cons (a2, Tk.wd u) r2)) ho') (by omega) hx
          refine ⟨?_, ?_⟩
          · show max 0 (max 0 (max (dep (planD p0)) 0)) + 1 ≤ _
            omega
          · show max 3 (max 0 (max 0 (max (wd (planD p0)) 0))) ≤ _
            omega
      · have er : readNode J (n + 1) ((a, .sg 33) :: (a2, t2) :: r2) = .err ((a2, t2) :: r2) := by
          cases t2 <;> first | rfl | exact absurd ⟨_, rfl⟩ hw
        rw [er] at h
        cases h
    · by_cases h91 : t = .sg 91
      · subst h91
        have ho' : opens r1 < n := by
          have : opens ((a, Tk.sg 91) :: r1) = opens r1 + 1 := by simp [opens, isOpen]
          omega
        have ht := hr.tail nofun nofun
        have h : (match readNode J n r1 with
          | .ok p e => readMore (readNode J n) (e.length + 1) [p] e
          | .err e => .err e) = Res.ok p r' := h
        have sp := node_spec hJ n r1 ht ho'
        cases hx : readNode J n r1 with
        | err e => rw [hx] at h; cases h
        | ok p0 e =>
          rw [hx] at h sp
          obtain ⟨i1, i2, i3, _⟩ := sp
          obtain ⟨b1, b2⟩ := node_bnd hJ (L := L) n r1 p0 e ht ho' (by omega) hx
          have := more_bnd hJ (L := L) (fun r p r' a b c d => node_bnd hJ (L := L) n r p r' a b c d) _ [p0] e p r' i1 (Nat.lt_of_le_of_lt (opens_suf i3) ho') (by simp; omega) (by show max (dep (planD p0)) 0 ≤ _; omega) (by show max (wd (planD p0)) 0 ≤ _; omega) h
          exact ⟨by omega, this.2⟩
      · rw [readNode_else h33 h91] at h
        obtain ⟨i, rfl⟩ := scan_out h
        refine ⟨?_, ?_⟩
        · show max 0 (max 0 0) + 1 ≤ _
          omega
        · show max 2 (max 0 (max 0 0)) ≤ _
          omega
/-- what reading a whole text tells -/
def resD (J : Body) (N : Nat) (ts : List TT) : D := match whole J N ts with
  | .ok p => .t [.s [103, 111, 111, 100], planD p]
  | .error ((a, _) :: _) => .t [.s [98, 97, 100], .i 0, .i (a : Int)]
  | .error [] => .t []
theorem resD_bnd {J : Body} (hJ : OkJ J) {N : Nat} {ts : List TT} (hw : Wf ts) (ho : opens ts < N) : dep (resD J N ts) ≤ 2 * N + 1 ∧ wd (resD J N ts) ≤ ts.length + 3 := by
  unfold resD
  cases hx : whole J N ts with
  | error r =>
    cases r with
    | nil => exact ⟨by show 0 + 1 ≤ _; omega, by show max 0 0 ≤ _; omega⟩
    | cons p r => exact ⟨by show max 0 (max 0 (max 0 0)) + 1 ≤ _; omega, by show max 3 (max 0 (max 0 (max 0 0))) ≤ _; omega⟩
  | ok p =>
    unfold whole at hx
    cases hr : readNode J N ts with
    | err r => rw [hr] at hx; cases hx
    | ok p0 r =>
      rw [hr] at hx
      have e : p0 = p := by
        split at hx
        · rename_i h; cases h; cases hx; rfl
        · cases hx
        · cases hx
      subst e
      obtain ⟨b1, b2⟩ := node_bnd hJ (L := ts.length) N ts p0 r hw ho (Nat.le_refl _) hr
      exact ⟨by show max 0 (max (dep (planD p0)) 0) + 1 ≤ _; omega, by show max 2 (max 0 (max (wd (planD p0)) 0)) ≤ _; omega⟩
variable {P : Program} {w : World} {K : PySem.W.Frag} {mg : Str → Option Value} {base : Heap} {CB fI : Addr}
def spRes (N : Nat) : Sp := fun vs H Q _ => ∃ (jv : V) (l : List Nat) (J : Body), vs = [jv, .str (S l)] ∧ Rep H (joinD J) jv ∧ JB J ∧ OkJ J ∧ (∀ a ∈ J, AtB a) ∧ l.length ≤ 1000000 ∧ DigOk l ∧ opens (toks 0 l) < N ∧ ∀ H' v, Same H H' → Rep H' (resD J N (toks 0 l)) v → Q v H'
abbrev sc_l_read_plan_N : List Str := ["_law_join", "_law_text", "_law_tokens_here", "_law_texts", "_law_pair", "_law_stop"]
abbrev sc_l_read_plan_P : List Str := ["_law_join", "_law_text"]
abbrev sc_l_read_plan_s : Scope := defScope s_l_read_plan
theorem sc_l_read_plan : FnScope sc_l_read_plan_N sc_l_read_plan_P sc_l_read_plan_s := ⟨rfl, rfl, rfl, by decide +kernel, rfl, by decide +kernel, by decide +kernel⟩

theorem ok_l_read_plan (T : Txt K mg) (N : Nat) : Cal P w K mg base CX0 5 "_law_read_plan" (spRes N) := by
  have c_l_tokens : Cal P w K mg base CX0 3 "_law_tokens" spToks := ok_tokens T
  have c_l_plan_stop : Cal P w K mg base CX0 4 "_law_plan_stop" spStop := ok_plan_stop T
  have c_l_plan_of : Cal P w K mg base CX0 1 "_law_plan_of" spPlanOf := ok_plan_of T
  refine cal0 T.f_l_read_plan T.g_l_read_plan sc_l_read_plan (fun _ _ _ _ _ _ us hl => match us, hl with | [_, _], _ => rfl) (fun vs H Q E h => ?_) (fun cdv A outer s H vs Q E hr h => ?_)
  · obtain ⟨jv, l, J, rfl, _⟩ := h; rfl
  · obtain ⟨jv, l, J, rfl, hJ, hB, hO, hA, hl, hk, ho, q⟩ := h
    have hW := wf_toks l.length 0 l (Nat.le_refl _)
    have hlen := toks_len l.length 0 l (Nat.le_refl _)
    have ws := whole_spec hO hW ho
    refine ⟨_, (pss_cons (ps_set (i := 2) sc_l_read_plan.nd rfl (by first | exact Or.inl rfl | exact Or.inr rfl) (pe_c c_l_tokens hr (pa_cons (pv 1) pa_nil)))
      (pss_cons (ps_setLc (i := 3) (own := [("_law_pair", 4)]) (g := gName 4) (tt := tYes) rfl sc_l_read_plan.nd rfl rfl (sw_true rfl rfl rfl (by decide +kernel)) (pi_list (pv 2)) (blkOk_by (own := [("_law_pair", 4)]) (N := sc_l_read_plan_N) (sc := sc_l_read_plan_s) (by decide +kernel)) (fun _ _ _ _ _ => pg_name (i := 4) sc_l_read_plan.nd rfl (Or.inl rfl)) (fun _ _ _ _ _ => pts_nil) (fun _ _ _ _ _ => (pe_ix (kx_tup (K := K) rfl) (pv 4) pe_int (fun _ _ => rfl))))
      (pss_cons (ps_set (i := 5) sc_l_read_plan.nd rfl (by first | exact Or.inl rfl | exact Or.inr rfl) (pe_c c_l_plan_stop hr (pa_cons (pv 0) (pa_cons (pv 3) pa_nil))))
      (pss_cons (ps_if (pt_cmpR op_ge (pv 5) pe_int (nomark _)) (pss_one (ps_ret (pe_tup (pa_cons pe_str (pa_cons pe_int (pa_cons (pe_ix ix_tup (pe_ix ix_list (pv 2) (pv 5) (fun _ _ => rfl)) pe_int (fun _ _ => rfl)) pa_nil)))))) pss_nil)
      (pss_one (ps_ret (pe_tup (pa_cons pe_str (pa_cons (pe_c c_l_plan_of hr (pa_cons (pv 0) (pa_cons (pv 3) pa_nil))) pa_nil))))))))), ?_⟩
    wtm_at "rd"
    refine ⟨l, rfl, hl, hk, fun tp H1 xs s1 htp htp1 hxs => ?_⟩
    wtm_at "rd"
    generalize toks 0 l = ts at hW hlen ws ho q hxs ⊢
    have hxl := hxs.length
    refine ⟨⟨_, SqL.of htp1⟩, ?_⟩
    refine lcb (walk_list (xs := xs)) (fun D i H' => H' = upd H1 D (.lst ((sL (texts ts)).take i))) (fun D hD => rfl) (fun D i H' hD e => ?_) (fun D i v H2 H3 hD hi e y => ?_) (fun D H' hD e => ?_)
    · rw [e]; exact SqL.of (by rw [upd_ne (ne_of_none htp1 hD)]; exact htp1)
    · obtain ⟨rfl, hv⟩ := y
      subst e
      obtain ⟨t, ht⟩ : ∃ t, ts[i]? = some t := ⟨_, List.getElem?_eq_getElem (by omega)⟩
      obtain ⟨v', hv', b, e1, e2⟩ := pr_get hxs ht
      rw [hv] at hv'
      cases hv'
      subst e1
      wtm_at "rd"
      refine ⟨_, SqT.of (by rw [upd_ne (ne_of_none e2 hD)]; exact e2), _, rfl, ?_⟩
      exact acc_next (by rw [List.getElem?_map, List.getElem?_map, ht]; rfl) (by simp; omega) (fun H' => H' = _) rfl
    · rw [List.take_of_length_le (by simp; omega)] at e
      subst e
      have s2 := same_new hD (.lst (sL (texts ts)))
      wtm_at "rd"
      refine ⟨jv, D, J, ts, rfl, hJ.kt (KT.same (s1.trans s2)) _ _, hB, hO, hA, upd_same, by omega, fun H4 s4 => ?_⟩
      have sall := (s1.trans s2).trans s4
      wtm_at "rd"
      unfold resD at q
      unfold stopI
      cases hx : whole J N ts with
      | ok p =>
        rw [hx] at ws q
        obtain ⟨hm, fi, hbr⟩ := ws
        rw [hm]
        refine ite2 (fun h => absurd h (by show ¬ (0 : Int) ≤ -1; decide)) (fun _ => ?_)
        refine ⟨jv, D, J, texts ts, p, fi, rfl, hJ.kt (KT.same sall) _ _, hB, hO, s4 _ _ upd_same, by simp; omega, hbr, fun H5 v s5 hv => ?_⟩
        wtm_at "rd"
        intro r hr
        have s6 := same_new hr (.tup [.str (S [103, 111, 111, 100]), v])
        exact q _ _ ((sall.trans s5).trans s6) ⟨r, _, rfl, upd_same, _, _, rfl, rfl, _, _, rfl, hv.kt (KT.same s6) _ _, rfl⟩
      | error r =>
        rw [hx] at ws q
        obtain ⟨hWr, hsuf, hm⟩ := ws
        rw [hm]
        obtain ⟨a, t, r', rfl⟩ := hWr.ne
        refine ite2 (fun _ => ?_) (fun h => absurd (by show (0 : Int) ≤ ((ts.length - _ : Nat) : Int); omega) h)
        have hat : ts[ts.length - ((a, t) :: r').length]? = some (a, t) := by
          obtain ⟨pre, hp⟩ := hsuf
          rw [← hp, List.length_append, Nat.add_sub_cancel]
          simp
        obtain ⟨v', hv', b, e1, e2⟩ := pr_get hxs hat
        subst e1
        refine ⟨_, SqL.of ((s2.trans s4) _ _ htp1), _, atI_nat hv', b, rfl, _, SqT.of ((s2.trans s4) _ _ e2), _, rfl, fun p hp => ?_⟩
        have s5 := same_new hp (.tup [.str (S [98, 97, 100]), .int 0, .int (a : Int)])
        exact q _ _ (sall.trans s5) ⟨p, _, rfl, upd_same, _, _, rfl, rfl, _, _, rfl, rfl, _, _, rfl, rfl, rfl⟩
end
end K26

end
section
set_option linter.all false
set_option maxRecDepth 100000
set_option maxHeartbeats 4000000
namespace K26
open PySem PySem.Spec PyProof.Rows L2
open SX (S S_len S_cat S_inj)
open PySem.NumText
local macro_rules | `(tactic| wtm_at "rd") => `(tactic| try simp only [tSeq, tAsg, tVar, tC, gName, tRet, tRetN, tIfS, tNext, tDrop, tOp, tUn, rI0, rI, rU, tTest, tB, tAnd, tOr, tNot, tAndV, tOrV, tNotV, tIf, tCB, tCons, tNil, tTup, tLst, tCall, tSl, tPart, tNoPart, tBM, tBM0, gTup, gCons, gNil, gSub, tAug, ipI, rEq, rNe, sc_ii, sc_ss, sc_bb, sc_nn, sc_is, sc_si, sc_ns, sc_sn, sc_ni, sc_in, z0, z1, z2, z3, z4, z5, if_true, if_false, Bool.not_eq_true', decide_eq_false_iff_not, rIxS, rSlS, rSlL, tAugS, rGetL, cast1, rIxL, rIxT, rSetL, rAppend, rPop, rPopAt, rReverse, rCat, tYes, iRng1, iRng2, tMkBad, rIn, tFld, sFld, sFldAug, rAdd, tMeth, tMake, tCallS, tBadF, tM1, iList, iTup, iEnum, iEnumT, iStr, tBreak, C8.tCut, tFor_eq, tLc_eq, wipe_1,
  L2.start, List.map_cons, List.map_nil, List.cons_append, List.nil_append, List.append_nil, List.length_cons, List.length_nil, Nat.reduceAdd, Nat.reduceSub, List.replicate_succ, List.replicate_zero,
  List.getElem?_cons_succ, List.getElem?_cons_zero, List.set_cons_succ, List.set_cons_zero, Option.some.injEq, V.int.injEq, V.str.injEq, V.ref.injEq, V.bl.injEq, List.cons.injEq, and_assoc, and_true, true_and, exists_eq_left', exists_eq_left, exists_and_left, exists_and_right, exists_eq, decide_eq_true_eq, reduceCtorEq, false_and, and_false, exists_false, false_or, or_false, S_len, S_eq, k0, k1, k2, k3, k4, k5, k6, k7, k8, k9, k10, k11, k12, k13, k14, k15, k16, k17, k18, k19, k20, k21, k22, k23, k24, k25, k26, k27, k28, k29, k30, k31, k32, k33, k34, k35, k36, k37, k38, k39, k40, k41, k42, k43, k44, k45, k46, k47, k48, k49, k50, k51, k52, k53, Nat.zero_add])

section
/-- what the classes say, so that isinstance asks a BadText rightly -/
structure IsB (K : PySem.W.Frag) (CB : Addr) : Prop where
  ec : ExcC K CB
  k1 : PySem.W.kitOne K (.ref CB) (.ref (He.ga K "ChanceError")) = some true
  k2 : PySem.W.kitOne K (.ref CB) (.type "ValueError") = some true
  k3 : PySem.W.kitOne K (.ref CB) (.ref (He.ga K "DoubleFact")) = some false
/-- isinstance(e, c), e the exception that the suite holds, with fields -/
def rIsD (K : PySem.W.Frag) (D a : Addr) (cls : Value) (d : Option Addr) : List V → Hp → VK → Prop := fun xs H Q => ∃ (c : V) (cv : Value) (b : Bool) (dd : Addr) (fs : List (Str × V)), xs = [.ref a, c] ∧ cls = .ref D ∧ d = some dd ∧ H dd = some (.xd fs) ∧ (∀ u, RelV c u → u = cv) ∧ PySem.W.kitOne K (.ref D) cv = some b ∧ Q (.bl b) H
theorem call_isD {X : Cx} {a D : Addr} {oe : Obj} {cls : Value} {d : Option Addr} {pn : List (Addr × Obj)} (C : ExcC X.K D) (hz : Zc cls d oe) (hf : ∃ vs, oe.data = .fields vs) : CallR (X.suite a ((a, oe) :: pn)) (.builtin "isinstance") (rIsD X.K D a cls d) := by
  intro pins s σ H xs us Q I r h
  obtain ⟨c, cv, b, dd, fs, rfl, ec, ed, ea, hcv, e, q⟩ := h
  subst ec ed
  cases r with
  | cons rx rr =>
    cases rr with
    | cons rt rr =>
      cases rr
      cases rx
      have e2 := hcv _ rt
      subst e2
      obtain ⟨ha, _⟩ := I.pin (a, oe) (List.mem_append_left _ List.mem_cons_self)
      obtain ⟨vs, hd⟩ := hf
      have hx : ObjOk X.prog X.w H s.heap dd (.xd fs) := I.hok dd _ ea
      obtain ⟨mA, hns, hr⟩ := hx
      obtain ⟨od, ho, hl⟩ := lookIn_ns hns
      have J : PySem.W.InstAt s.heap a oe D (some od) := ⟨ha, hz.1, by unfold PySem.W.notCls; rw [hd] <;> rfl, by rw [hz.2]; exact ho⟩
      have hcl : (PySem.W.clsIn X.K D).isSome = true := by
        obtain ⟨cd, hc, _⟩ := PySem.W.any_some C.hd
        rw [hc]; rfl
      exact PySem.W.kia_one (PySem.W.kitx_exc hcl C.hg C.hk C.hs C.ha C.hn C.ht C.hm) I.kIn J e (fun z => nomatch z) fun tk => ⟨.bl b, H, I.kept (t' := tk) fun _ _ z => z, rfl, q⟩
variable {P : Program} {w : World} {K : PySem.W.Frag} {mg : Str → Option Value} {base : Heap} {CB fI : Addr}
theorem lk_line (a : Nat) : List.lookup ("line" : Str) (xdF (.int 0) (.int (a : Int))) = some (.int 0) := by kernel_rfl
theorem lk_at (a : Nat) : List.lookup ("at" : Str) (xdF (.int 0) (.int (a : Int))) = some (.int (a : Int)) := by kernel_rfl
abbrev sc_l_plan_result_N : List Str := ["_law_join", "_law_text", "e"]
abbrev sc_l_plan_result_P : List Str := ["_law_join", "_law_text"]
abbrev sc_l_plan_result_s : Scope := defScope s_l_plan_result
theorem sc_l_plan_result : FnScope sc_l_plan_result_N sc_l_plan_result_P sc_l_plan_result_s := ⟨rfl, rfl, rfl, by decide +kernel, rfl, by decide +kernel, by decide +kernel⟩

theorem ok_plan_result (T : Txt K mg) (B : BadTxt K mg CB fI) (BP : BadP P) (N : Nat) : Cal P w K mg base CX0 (N + 9) "_law_plan_result" (spRes N) := by
  obtain ⟨f, fd, ps, F, hm, kp, b⟩ := (ok_read_plan (P := P) (w := w) (base := base) T B BP N).ex
  refine cal0 T.f_l_plan_result T.g_l_plan_result sc_l_plan_result (fun _ _ _ _ _ _ us hl => match us, hl with | [_, _], _ => rfl) (fun vs H Q E h => ?_) (fun cdv A outer s H vs Q E hr h => ?_)
  · obtain ⟨jv, l, J, rfl, _⟩ := h; rfl
  · obtain ⟨jv, l, J, rfl, hJ, hB, hO, hA, hl, hk, ho, q⟩ := h
    have hr1 : Room (N + 8) _ := hr
    refine ⟨_, pss_one (ps_try_as (i := 2) (Wout := fun _ _ _ _ => False) rfl rfl sc_l_plan_result.nd rfl rfl ⟨rfl, by decide, Or.inl B.gC⟩ takes0
      (fun W pn xe tk _ => pss_one (ps_ret (pe_tup (pa_cons pe_str (pa_cons (pe_callS F hr1 rfl hm kp b (fun σ => passAt tk σ) (pa_cons (pv 0) (pa_cons (pv 1) pa_nil))) pa_nil)))))
      (fun a oe cls d pn hz hf => pss_one (ps_ret (pe_tup (pa_cons pe_str (pa_cons (pe_badF B B.noL hz hf (pv 2)) (pa_cons (pe_badF B B.noA hz hf (pv 2)) pa_nil))))))), ?_⟩
    wtm_at "rd"
    refine ⟨jv, l, J, rfl, hJ, hB, hO, hl, hk, ho, ?_⟩
    unfold resD at q
    have hW := wf_toks l.length 0 l (Nat.le_refl _)
    have ws := whole_spec hO hW ho
    cases hx : whole J N (toks 0 l) with
    | ok p =>
      rw [hx] at q
      intro H1 v s1 hv
      wtm_at "rd"
      intro r hr
      have s2 := same_new hr (.tup [.str (S [103, 111, 111, 100]), v])
      exact q _ _ (s1.trans s2) ⟨r, _, rfl, upd_same, _, _, rfl, rfl, _, _, rfl, hv.kt (KT.same s2) _ _, rfl⟩
    | error r =>
      rw [hx] at q ws
      obtain ⟨a, t, r', rfl⟩ := ws.1.ne
      intro a' t' r'' he d H1 s1 hd
      cases he
      refine ⟨true, B.te, fun _ a0 ha0 => ?_, fun z => by cases z⟩
      wtm_at "rd"
      refine ⟨_, hd, _, lk_line a, _, hd, _, lk_at a, fun r hr => ?_⟩
      have s2 := same_new hr (.tup [.str (S [98, 97, 100]), .int 0, .int (a : Int)])
      exact q _ _ (s1.trans s2) ⟨r, _, rfl, upd_same, _, _, rfl, rfl, _, _, rfl, rfl, _, _, rfl, rfl, rfl⟩
/-! ### _law_classes -/
def spClasses (N : Nat) : Sp := fun vs H Q _ => ∃ (jv : V) (l : List Nat) (J : Body), vs = [jv, .str (S l)] ∧ Rep H (joinD J) jv ∧ JB J ∧ OkJ J ∧ (∀ a ∈ J, AtB a) ∧ l.length ≤ 1000000 ∧ DigOk l ∧ opens (toks 0 l) < N ∧ ∀ H', Same H H' → Q (.bl true) H'
theorem boot_VE_ : bootBuiltins "ValueError" = some (.type "ValueError") := by decide +kernel
abbrev sc_l_classes_N : List Str := ["_law_join", "_law_text", "e"]
abbrev sc_l_classes_P : List Str := ["_law_join", "_law_text"]
abbrev sc_l_classes_s : Scope := defScope s_l_classes
theorem sc_l_classes : FnScope sc_l_classes_N sc_l_classes_P sc_l_classes_s := ⟨rfl, rfl, rfl, by decide +kernel, rfl, by decide +kernel, by decide +kernel⟩

theorem ok_classes (T : Txt K mg) (B : BadTxt K mg CB fI) (BP : BadP P) (IB : IsB K CB) (N : Nat) : Cal P w K mg base CX0 (N + 9) "_law_classes" (spClasses N) := by
  obtain ⟨f, fd, ps, F, hm, kp, b⟩ := (ok_read_plan (P := P) (w := w) (base := base) T B BP N).ex
  refine cal0 T.f_l_classes T.g_l_classes sc_l_classes (fun _ _ _ _ _ _ us hl => match us, hl with | [_, _], _ => rfl) (fun vs H Q E h => ?_) (fun cdv A outer s H vs Q E hr h => ?_)
  · obtain ⟨jv, l, J, rfl, _⟩ := h; rfl
  · obtain ⟨jv, l, J, rfl, hJ, hB, hO, hA, hl, hk, ho, q⟩ := h
    have hr1 : Room (N + 8) _ := hr
    refine ⟨_, pss_cons (ps_try_as (i := 2) (Wout := fun _ _ _ _ => False) rfl rfl sc_l_classes.nd rfl rfl ⟨rfl, by decide, Or.inl B.gC⟩ takes0
      (fun W pn xe tk _ => pss_one (ps_expr (pe_callS F hr1 rfl hm kp b (fun σ => passAt tk σ) (pa_cons (pv 0) (pa_cons (pv 1) pa_nil)))))
      (fun a oe cls d pn hz hf => pss_one (ps_ret (pe_and (pe_callB (call_isD IB.ec hz hf) (by rfl) T.b_isinstance boot_isinstance_ (pa_cons (pv 2) (pa_cons (pe_glob (v := .ref (He.ga K "ChanceError")) (by rfl) T.g_ChanceError rfl) pa_nil)))
        (pe_and (pe_callB (call_isD IB.ec hz hf) (by rfl) T.b_isinstance boot_isinstance_ (pa_cons (pv 2) (pa_cons (pe_tyN T.b_ValueError boot_VE_) pa_nil)))
        (pe_one (pe_not (pe_callB (call_isD IB.ec hz hf) (by rfl) T.b_isinstance boot_isinstance_ (pa_cons (pv 2) (pa_cons (pe_glob (v := .ref (He.ga K "DoubleFact")) (by rfl) T.g_DoubleFact rfl) pa_nil)))))))))) (pss_one (ps_ret pe_bl)), ?_⟩
    wtm_at "rd"
    refine ⟨jv, l, J, rfl, hJ, hB, hO, hl, hk, ho, ?_⟩
    have hW := wf_toks l.length 0 l (Nat.le_refl _)
    have ws := whole_spec hO hW ho
    cases hx : whole J N (toks 0 l) with
    | ok p =>
      intro H1 v s1 hv
      wtm_at "rd"
      exact q H1 s1
    | error r =>
      rw [hx] at ws
      obtain ⟨a, t, r', rfl⟩ := ws.1.ne
      intro a' t' r'' he d H1 s1 hd
      cases he
      refine ⟨true, B.te, fun _ a0 ha0 => ?_, fun z => by cases z⟩
      wtm_at "rd"
      refine ⟨_, _, true, d, _, rfl, rfl, rfl, hd, fun u hu => hu, IB.k1, true, rfl, ?_⟩
      rw [if_pos rfl]
      refine ⟨_, _, true, d, _, rfl, rfl, rfl, hd, fun u hu => hu, IB.k2, true, rfl, ?_⟩
      rw [if_pos rfl]
      refine ⟨_, _, false, d, _, rfl, rfl, rfl, hd, fun u hu => hu, IB.k3, false, rfl, ?_⟩
      exact q H1 s1
end
end K26

end
section
set_option linter.all false
set_option maxRecDepth 100000
set_option maxHeartbeats 4000000
namespace K26
open PySem PySem.Spec PyProof.Rows L2
open SX (S S_len S_cat S_inj)
open PySem.NumText
section
/-! ### sorted, items (name, int) -/
abbrev NP := V × List Nat × Int
def npD (b : NP) : PyData := .tuple [.str (S b.2.1), .int b.2.2]
/-- sorted(xs): a new list of the same items -/
def rSortNP (K : PySem.W.Frag) : List V → Hp → VK → Prop := fun vs H Q => ∃ (a : Addr) (bs : List NP), vs = [.ref a] ∧ SqL K H a (bs.map fun b => b.1) ∧ (∀ b ∈ bs, ∃ t, b.1 = .ref t ∧ H t = some (.tup [.str (S b.2.1), .int b.2.2])) ∧ bs.length ≤ 100 ∧
  ∀ (cs : List NP) p, cs.Perm bs → H p = none → Q (.ref p) (upd H p (.lst (cs.map fun b => b.1)))
theorem vals_each : ∀ {bs : List NP} {us : List Value}, Vals (bs.map fun b => b.1) us → PySem.W.EachIs (fun v (b : NP) => RelV b.1 v) us bs
  | [], _, h => by cases h; exact .nil
  | b :: bs, _, h => by
    cases h with
    | cons r t => exact .cons r (vals_each t)
theorem each_vals {bs : List NP} {us : List Value} (h : PySem.W.EachIs (fun v (b : NP) => RelV b.1 v) us bs) : Vals (bs.map fun b => b.1) us := by
  induction h with
  | nil => exact .nil
  | cons r _ ih => exact .cons r ih
theorem each_all {R : Value → NP → Prop} {R' : Value → NP → Prop} : ∀ {bs : List NP} {us : List Value}, PySem.W.EachIs R us bs → (∀ v b, b ∈ bs → R v b → R' v b) → PySem.W.EachIs R' us bs
  | [], _, .nil, _ => .nil
  | b :: bs, _, .cons r t, h => .cons (h _ _ List.mem_cons_self r) (each_all t fun v c hc => h v c (List.mem_cons_of_mem _ hc))
theorem cr_sortNP {X : Cx} {K : PySem.W.Frag} (hK : X.K = K) (hu : X.A.units + 64 < cLine) : CallR X (.builtin "sorted") (rSortNP K) := by
  subst hK
  intro pins s σ H vs us Q I r h
  obtain ⟨a, bs, rfl, hs, hx, hl, q⟩ := h
  obtain ⟨its, rv, pl, hz⟩ := I.list hs
  obtain ⟨u, rfl, ru⟩ := vals1 r
  obtain rfl : u = Value.ref a := ru
  have e := vals_each rv
  have er : PySem.W.EachIs (fun v (b : NP) => ∃ as, Reads s.heap v (npD b) as) its bs := each_all e fun v b hb hr => by
    obtain ⟨t, e1, ht⟩ := hx b hb
    rw [e1] at hr
    have d : Dp X.K H (.ref t) (npD b) := .tup (SqT.of ht) (.cons (.str _) (.cons (.int _) .nil))
    exact Dp.reads I _ _ _ d hr
  refine PySem.W.sorted_data (enc := npD) pl.isList e er (PySem.W.AllAlike.of fun _ _ => by simp [PySem.W.alike, PySem.W.alikeAll, npD]) (PySem.W.Sortable.tuples fun _ => ⟨_, _, rfl⟩) (by rw [sizeLine_eq]; omega) (fun b _ => ?_) fun out hlen eo => ?_
  · have hd : (npD b).depth = 1 := by simp [npD, PyData.depth, PyData.depthAll]
    omega
  · obtain ⟨ep, he'⟩ := PyProof.Rows.sortedAll_at s.heap its (List.toArray out)
    have hm := (List.mergeSort_perm bs (PySem.W.dataLe false npD))
    have rv' := each_vals eo
    refine ⟨.ref _, upd H (s.heap.objs.size + 1) (.lst ((bs.mergeSort (PySem.W.dataLe false npD)).map fun b => b.1)), I.laid (t' := s.toks) (fun _ _ => PyProof.Rows.sortedAll_old) (Nat.le_succ _) ⟨?_, out, ep, rv', by simpa using he'⟩, rfl, q _ _ hm (I.hok.fresh (Nat.le_succ _))⟩
    rw [List.length_map, hm.length_eq]
    exact le_line (by omega)
end
end K26

end
section
set_option linter.all false
set_option maxRecDepth 100000
set_option maxHeartbeats 4000000
namespace K26
open PySem PySem.Spec PyProof.Rows L2
open SX (S S_len S_cat S_inj)
open PySem.NumText
local macro_rules | `(tactic| wtm_at "rd") => `(tactic| try simp only [tSeq, tAsg, tVar, tC, gName, tRet, tRetN, tIfS, tNext, tDrop, tOp, tUn, rI0, rI, rU, tTest, tB, tAnd, tOr, tNot, tAndV, tOrV, tNotV, tIf, tCB, tCons, tNil, tTup, tLst, tCall, tSl, tPart, tNoPart, tBM, tBM0, gTup, gCons, gNil, gSub, tAug, ipI, rEq, rNe, sc_ii, sc_ss, sc_bb, sc_nn, sc_is, sc_si, sc_ns, sc_sn, sc_ni, sc_in, z0, z1, z2, z3, z4, z5, if_true, if_false, Bool.not_eq_true', decide_eq_false_iff_not, rIxS, rSlS, rSlL, tAugS, rGetL, cast1, rIxL, rIxT, rSetL, rAppend, rPop, rPopAt, rReverse, rCat, tYes, iRng1, iRng2, tMkBad, rIn, tFld, sFld, sFldAug, rAdd, tMeth, tMake, tCallS, tBadF, tM1, iList, iTup, iEnum, iEnumT, iStr, tBreak, C8.tCut, tFor_eq, tLc_eq, wipe_1,
  L2.start, List.map_cons, List.map_nil, List.cons_append, List.nil_append, List.append_nil, List.length_cons, List.length_nil, Nat.reduceAdd, Nat.reduceSub, List.replicate_succ, List.replicate_zero,
  List.getElem?_cons_succ, List.getElem?_cons_zero, List.set_cons_succ, List.set_cons_zero, Option.some.injEq, V.int.injEq, V.str.injEq, V.ref.injEq, V.bl.injEq, List.cons.injEq, and_assoc, and_true, true_and, exists_eq_left', exists_eq_left, exists_and_left, exists_and_right, exists_eq, decide_eq_true_eq, reduceCtorEq, false_and, and_false, exists_false, false_or, or_false, S_len, S_eq, k0, k1, k2, k3, k4, k5, k6, k7, k8, k9, k10, k11, k12, k13, k14, k15, k16, k17, k18, k19, k20, k21, k22, k23, k24, k25, k26, k27, k28, k29, k30, k31, k32, k33, k34, k35, k36, k37, k38, k39, k40, k41, k42, k43, k44, k45, k46, k47, k48, k49, k50, k51, k52, k53, Nat.zero_add])

section
theorem sqL_same {K : PySem.W.Frag} {H H' : Hp} {a : Addr} {xs : List V} (s : Same H H') (h : SqL K H a xs) : SqL K H' a xs := by
  rcases h with (h | ⟨o, h⟩) | h
  · exact .inl (.inl (s _ _ h))
  · exact .inl (.inr ⟨o, s _ _ h⟩)
  · exact .inr h
/-- the draws: a list of ints -/
def Dr (dp : Addr) (H : Hp) : Prop := ∃ ds : List Int, H dp = some (.lst (ds.map V.int))
theorem Dr.upd {dp : Addr} {H : Hp} {ds : List Int} : Dr dp (L2.upd H dp (.lst (ds.map V.int))) := ⟨ds, upd_same⟩
variable {P : Program} {w : World} {K : PySem.W.Frag} {mg : Str → Option Value} {base : Heap} {CB fI : Addr}
def spDraws (K : PySem.W.Frag) : Sp := fun vs H Q _ => ∃ (a : Addr) (ns : List Int), vs = [.ref a, .int 300] ∧ SqL K H a (ns.map V.int) ∧ ns.length ≤ 100 ∧ ∀ dp H', H' dp ≠ none → Dr dp H' → Q (.ref dp) H'
abbrev sc_l_draws_N : List Str := ["_law_script", "_law_many", "_law_cells", "_law_cell", "_law_rest", "_law_draws_here", "_law_k", "_law_at", "_law_mixed"]
abbrev sc_l_draws_P : List Str := ["_law_script", "_law_many"]
abbrev sc_l_draws_s : Scope := defScope s_l_draws
theorem sc_l_draws : FnScope sc_l_draws_N sc_l_draws_P sc_l_draws_s := ⟨rfl, rfl, rfl, by decide +kernel, rfl, by decide +kernel, by decide +kernel⟩

theorem ok_draws (T : Txt K mg) : Cal P w K mg base CX0 1 "_law_draws" (spDraws K) := by
  refine cal0 T.f_l_draws T.g_l_draws sc_l_draws (fun _ _ _ _ _ _ us hl => match us, hl with | [_, _], _ => rfl) (fun vs H Q E h => ?_) (fun cdv A outer s H vs Q E hr h => ?_)
  · obtain ⟨a, ns, rfl, _⟩ := h; rfl
  · obtain ⟨a, ns, rfl, hs, hn, q⟩ := h
    refine ⟨_, (pss_cons (ps_setLc (i := 2) (own := [("_law_cell", 3)]) (g := gName 3) (tt := tYes) rfl sc_l_draws.nd rfl rfl (sw_true rfl rfl rfl (by decide +kernel)) (pi_list (pv 0)) (blkOk_by (own := [("_law_cell", 3)]) (N := sc_l_draws_N) (sc := sc_l_draws_s) (by decide +kernel)) (fun _ _ _ _ _ => pg_name (i := 3) sc_l_draws.nd rfl (Or.inl rfl)) (fun _ _ _ _ _ => pts_nil) (fun _ _ _ _ _ => (pe_callTy call_int1 (by rfl) T.b_int boot_int_ (pa_cons (pv 3) pa_nil))))
      (C8.pss_cut (ps_if (pt_cmpR op_eq (pe_callB call_len_seq (by rfl) T.b_len boot_len (pa_cons (pv 2) pa_nil)) pe_int (nomark _)) (pss_one (ps_expr (pe_bm PySem.F.plainAttrs_list PySem.F.slot_list_append PySem.F.type_list_append mt_append (pv 2) (pa_cons pe_int pa_nil)))) pss_nil)
      (pss_cons (ps_set (i := 4) sc_l_draws.nd rfl (by first | exact Or.inl rfl | exact Or.inr rfl) (pe_callTy call_list_of (by rfl) T.b_list boot_list_ (pa_cons (pv 2) pa_nil)))
      (pss_cons (ps_set (i := 5) sc_l_draws.nd rfl (by first | exact Or.inl rfl | exact Or.inr rfl) (pe_lst pa_nil))
      (pss_cons (ps_for PassesOwn.never rfl (pi_range1 (by rfl) T.b_range (pa_cons (pv 1) pa_nil)) (pg_name (i := 6) sc_l_draws.nd rfl (by first | exact Or.inl rfl | exact Or.inr rfl)) (pss_cons (ps_set (i := 7) sc_l_draws.nd rfl (by first | exact Or.inl rfl | exact Or.inr rfl) (pe_op op_mod (pv 6) (pe_callB call_len_seq (by rfl) T.b_len boot_len (pa_cons (pv 2) pa_nil))))
      (pss_one (ps_if (pt_cmpR op_ge (pe_ix ix_list (pv 2) (pv 7) (fun _ _ => rfl)) (pe_op op_pow pe_int pe_int) (nomark _)) (pss_cons (ps_expr (pe_bm PySem.F.plainAttrs_list PySem.F.slot_list_append PySem.F.type_list_append mt_append (pv 5) (pa_cons (pe_op op_mod (pe_callTy call_int1 (by rfl) T.b_int boot_int_ (pa_cons (pe_ix ix_list (pv 4) (pv 7) (fun _ _ => rfl)) pa_nil)) pe_int) pa_nil)))
      (pss_one (ps_asg (pe_op op_fdiv (pe_ix ix_list (pv 4) (pv 7) (fun _ _ => rfl)) pe_int) (pg_sub (pv 4) (pv 7) set_list)))) (pss_cons (ps_set (i := 8) sc_l_draws.nd rfl (by first | exact Or.inl rfl | exact Or.inr rfl) (pe_op op_mod (pe_callTy call_int1 (by rfl) T.b_int boot_int_ (pa_cons (pe_op op_add (pe_op op_add (pe_op op_mul (pe_ix ix_list (pv 2) (pv 7) (fun _ _ => rfl)) pe_int) (pe_op op_mul (pv 6) pe_int)) pe_int) pa_nil)) pe_int))
      (pss_one (ps_expr (pe_bm PySem.F.plainAttrs_list PySem.F.slot_list_append PySem.F.type_list_append mt_append (pv 5) (pa_cons (pe_op op_mod (pe_callTy call_int1 (by rfl) T.b_int boot_int_ (pa_cons (pe_op op_add (pe_op op_add (pe_op op_mul (pv 8) (pv 8)) (pe_op op_mul pe_int (pv 8))) (pv 6)) pa_nil)) pe_int) pa_nil)))))))))
      (pss_cons (ps_expr (pe_bm0 PySem.F.plainAttrs_list PySem.F.slot_list_reverse PySem.F.type_list_reverse mt_reverse (pv 5)))
      (pss_one (ps_ret (pv 5))))))))), ?_⟩
    wtm_at "rd"
    have hnl : (ns.map V.int).length = ns.length := List.length_map _
    refine ⟨⟨_, hs⟩, ?_⟩
    refine lcb (walk_list (xs := ns.map V.int)) (fun D i H' => H' = upd H D (.lst ((ns.map V.int).take i))) (fun D hD => rfl) (fun D i H' hD e => ?_) (fun D i v H1 H2 hD hi e y => ?_) (fun D H' hD e => ?_)
    · rw [e]; exact sqL_same (same_new hD _) hs
    · obtain ⟨rfl, hv⟩ := y
      subst e
      rw [List.getElem?_map] at hv
      obtain ⟨n, hn', rfl⟩ := Option.map_eq_some_iff.mp hv
      wtm_at "rd"
      exact acc_next (by rw [List.getElem?_map, hn']; rfl) (by omega) (fun H' => H' = _) rfl
    · rw [List.take_of_length_le (Nat.le_refl _)] at e
      subst e
      wtm_at "rd"
      obtain ⟨Mid, hMid⟩ : ∃ Mid : L2.St → Hp → Prop, ∀ σ H', Mid σ H' ↔ ∃ cs : List Int, cs ≠ [] ∧ cs.length ≤ 101 ∧ H' D = some (.lst (cs.map V.int)) ∧ σ = [some (.ref a), some (.int 300), some (.ref D), none, none, none, none, none, none] := ⟨_, fun _ _ => Iff.rfl⟩
      refine ⟨Mid, ⟨_, .inl (SqL.of upd_same), ite2 (fun h => ?_) (fun h => ?_)⟩, fun σ' H' hm => ?_⟩
      · have h0 : ns = [] := List.eq_nil_of_length_eq_zero (by omega)
        subst h0
        exact ⟨tyL upd_same, _, upd_same, lt_line (by simp), (hMid _ _).mpr ⟨[0], by simp, by simp, upd_same, rfl⟩⟩
      · exact (hMid _ _).mpr ⟨ns, fun z => by rw [z] at h; simp at h, by omega, upd_same, rfl⟩
      · obtain ⟨cs, hne, hcl, hD1, rfl⟩ := (hMid _ _).mp hm
        have hcn : (cs.map V.int).length = cs.length := List.length_map _
        have hcp := len_pos hne
        wtm_at "rd"
        refine ⟨_, .inl (SqL.of hD1), fun rp hrp => ?_⟩
        wtm_at "rd"
        intro dp hdp
        wtm_at "rd"
        refine ⟨by decide, by decide, ?_⟩
        obtain ⟨Pv, hPv⟩ := opq3 fun k σ H2 => ∃ (rs ds : List Int) (u6 u7 u8 : Option V), rs.length = cs.length ∧ ds.length ≤ k ∧ H2 D = some (.lst (cs.map V.int)) ∧ H2 rp = some (.lst (rs.map V.int)) ∧ H2 dp = some (.lst (ds.map V.int)) ∧
          σ = [some (.ref a), some (.int 300), some (.ref D), none, some (.ref rp), some (.ref dp), u6, u7, u8]
        have hDr : D ≠ rp := ne_of_none hD1 hrp
        have hDd : D ≠ dp := ne_of_none ((same_new hrp _) _ _ hD1) hdp
        have hrd : rp ≠ dp := ne_of_none upd_same hdp
        refine forb (walk_range (lo := 0) (n := 300)) Pv ((hPv _ _ _).mpr ⟨cs, [], none, none, none, rfl, by simp, (same_new hdp _) _ _ ((same_new hrp _) _ _ hD1), (same_new hdp _) _ _ upd_same, upd_same, rfl⟩) (fun _ _ _ _ => trivial) (fun k x σ H1 H2 hk pv y => ?_) (fun σ H1 pv => ?_)
        · obtain ⟨rs, ds, u6, u7, u8, hrl, hdl, h1, h2, h3, rfl⟩ := (hPv _ _ _).mp pv
          obtain ⟨rfl, rfl⟩ := y
          have hrn : (rs.map V.int).length = rs.length := List.length_map _
          have hdn : (ds.map V.int).length = ds.length := List.length_map _
          have hm1 := Nat.mod_lt k hcp
          have hc1 : (cs.map V.int)[k % cs.length]? = some (.int cs[k % cs.length]) := by rw [List.getElem?_map, List.getElem?_eq_getElem hm1]; rfl
          have hr1 : (rs.map V.int)[k % cs.length]? = some (.int (rs[k % cs.length]'(by omega))) := by rw [List.getElem?_map, List.getElem?_eq_getElem (by omega)]; rfl
          have e1 : ((k : Int) % ((cs.map V.int).length : Int)) = ((k % cs.length : Nat) : Int) := by rw [hcn]; rfl
          wtm_at "rd"
          rw [Int.zero_add]
          refine ⟨_, .inl (SqL.of h1), by omega, ?_⟩
          rw [e1]
          refine ⟨_, SqL.of h1, _, atI_nat hc1, ⟨by decide, by decide, by decide⟩, _, rfl, ite2 (fun _ => ?_) (fun _ => ?_)⟩
          · refine ⟨tyL h3, _, SqL.of h2, _, atI_nat hr1, .inl ⟨_, rfl, by decide, _, h3, lt_line (by omega), ?_⟩⟩
            refine ⟨_, SqL.of (by rw [upd_ne hrd]; exact h2), _, atI_nat hr1, _, rfl, ⟨by decide, by decide⟩, _, by rw [upd_ne hrd]; exact h2, k % cs.length, ?_, ?_⟩
            · unfold ixN
              rw [if_pos (by omega), if_pos (by omega), Int.toNat_natCast]
            · refine (hPv _ _ _).mpr ⟨rs.set (k % cs.length) (rs[k % cs.length]'(by omega) / 1000), ds ++ [(rs[k % cs.length]'(by omega)) % 1000], _, _, _, by rw [List.length_set]; exact hrl, by simp; omega, by rw [upd_ne hDr, upd_ne hDd]; exact h1, by rw [upd_same, List.map_set], by rw [upd_ne hrd.symm, upd_same, List.map_append]; rfl, rfl⟩
          · obtain ⟨mx, hmx⟩ : ∃ mx : Int, mx = (cs[k % cs.length] * 48271 + (k : Int) * 69621 + 11) % 2147483647 := ⟨_, rfl⟩
            have hb1 : 0 ≤ mx := by rw [hmx]; exact Int.emod_nonneg _ (by decide)
            have hb2 : mx < 2147483647 := by rw [hmx]; exact Int.emod_lt_of_pos _ (by decide)
            refine ⟨_, SqL.of h1, _, atI_nat hc1, cs[k % cs.length], rfl, .inr ⟨by decide, by decide⟩, .inr ⟨by decide, by decide⟩, by decide, tyL h3, ?_⟩
            rw [← hmx]
            refine ⟨.inl ⟨by omega, by omega⟩, .inl ⟨by decide, by decide⟩, by decide, _, h3, lt_line (by omega), ?_⟩
            exact (hPv _ _ _).mpr ⟨rs, ds ++ [(mx * mx + 3 * mx + (k : Int)) % 1000003], _, _, _, hrl, by simp; omega, by rw [upd_ne hDd]; exact h1, by rw [upd_ne hrd]; exact h2, by rw [upd_same, List.map_append]; rfl, rfl⟩
        · obtain ⟨rs, ds, u6, u7, u8, hrl, hdl, h1, h2, h3, rfl⟩ := (hPv _ _ _).mp pv
          wtm_at "rd"
          refine ⟨tyL h3, _, h3, q dp _ (by rw [upd_same]; nofun) ⟨ds.reverse, ?_⟩⟩
          rw [upd_same, List.map_reverse]
/-! ### _law_take, _law_pick -/
def spTakeN : Sp := fun vs H Q _ => ∃ (dp : Addr) (m : Nat), vs = [.ref dp, .int m] ∧ 0 < m ∧ Dr dp H ∧ ∀ (r : Nat) H', r < m → Kp dp H H' → Dr dp H' → Q (.int r) H'
abbrev sc_l_take_N : List Str := ["_law_draws_here", "_law_many"]
abbrev sc_l_take_P : List Str := ["_law_draws_here", "_law_many"]
abbrev sc_l_take_s : Scope := defScope s_l_take
theorem sc_l_take : FnScope sc_l_take_N sc_l_take_P sc_l_take_s := ⟨rfl, rfl, rfl, by decide +kernel, rfl, by decide +kernel, by decide +kernel⟩

theorem ok_takeN (T : Txt K mg) : Cal P w K mg base CX0 1 "_law_take" spTakeN := by
  refine cal0 T.f_l_take T.g_l_take sc_l_take (fun _ _ _ _ _ _ us hl => match us, hl with | [_, _], _ => rfl) (fun vs H Q E h => ?_) (fun cdv A outer s H vs Q E hr h => ?_)
  · obtain ⟨dp, m, rfl, _⟩ := h; rfl
  · obtain ⟨dp, m, rfl, hm, ⟨ds, hd⟩, q⟩ := h
    refine ⟨_, (pss_cons (ps_if (pt_cmpR op_eq (pe_callB call_len_seq (by rfl) T.b_len boot_len (pa_cons (pv 0) pa_nil)) pe_int (nomark _)) (pss_one (ps_ret pe_int)) pss_nil)
      (pss_one (ps_ret (pe_op op_mod (pe_callTy call_int1 (by rfl) T.b_int boot_int_ (pa_cons (pe_bm0 PySem.F.plainAttrs_list PySem.F.slot_list_pop PySem.F.type_list_pop mt_pop (pv 0)) pa_nil)) (pv 1))))), ?_⟩
    wtm_at "rd"
    refine ⟨_, .inl (SqL.of hd), ite2 (fun h => ?_) (fun h => ?_)⟩
    · exact q 0 H hm (Kp.refl _ _) ⟨ds, hd⟩
    · rw [List.length_map] at h
      have hp : 0 < ds.length := by omega
      refine ⟨tyL hd, _, hd, .int (ds[ds.length - 1]'(by omega)), ?_, .inl ⟨_, rfl, by omega, ?_⟩⟩
      · rw [List.length_map, List.getElem?_map, List.getElem?_eq_getElem (by omega)]; rfl
      · have h1 := Int.emod_nonneg (ds[ds.length - 1]'(by omega)) (show (m : Int) ≠ 0 by omega)
        have h2 := Int.emod_lt_of_pos (ds[ds.length - 1]'(by omega)) (show (0 : Int) < m by omega)
        obtain ⟨r, hr'⟩ : ∃ r : Nat, (ds[ds.length - 1]'(by omega)) % (m : Int) = r := ⟨((ds[ds.length - 1]'(by omega)) % (m : Int)).toNat, by omega⟩
        rw [hr']
        exact q r _ (by omega) (Kp.refl _ _).upd ⟨ds.dropLast, by rw [upd_same, List.map_dropLast]⟩
def spPick (K : PySem.W.Frag) : Sp := fun vs H Q _ => ∃ (dp rp : Addr) (xs : List V), vs = [.ref dp, .ref rp] ∧ H rp = some (.lst xs) ∧ rp ≠ dp ∧ xs ≠ [] ∧ Dr dp H ∧ ∀ v H', v ∈ xs → Kp dp H H' → Dr dp H' → Q v H'
abbrev sc_l_pick_N : List Str := ["_law_draws_here", "_law_row"]
abbrev sc_l_pick_P : List Str := ["_law_draws_here", "_law_row"]
abbrev sc_l_pick_s : Scope := defScope s_l_pick
theorem sc_l_pick : FnScope sc_l_pick_N sc_l_pick_P sc_l_pick_s := ⟨rfl, rfl, rfl, by decide +kernel, rfl, by decide +kernel, by decide +kernel⟩

theorem ok_pick (T : Txt K mg) : Cal P w K mg base CX0 2 "_law_pick" (spPick K) := by
  have c_l_take : Cal P w K mg base CX0 1 "_law_take" spTakeN := ok_takeN T
  refine cal0 T.f_l_pick T.g_l_pick sc_l_pick (fun _ _ _ _ _ _ us hl => match us, hl with | [_, _], _ => rfl) (fun vs H Q E h => ?_) (fun cdv A outer s H vs Q E hr h => ?_)
  · obtain ⟨dp, rp, xs, rfl, _⟩ := h; rfl
  · obtain ⟨dp, rp, xs, rfl, hr1, hne, hx, hd, q⟩ := h
    refine ⟨_, (pss_one (ps_ret (pe_ix ix_list (pv 1) (pe_c c_l_take hr (pa_cons (pv 0) (pa_cons (pe_callB call_len_seq (by rfl) T.b_len boot_len (pa_cons (pv 1) pa_nil)) pa_nil))) (fun _ _ => rfl)))), ?_⟩
    wtm_at "rd"
    refine ⟨_, .inl (SqL.of hr1), dp, xs.length, rfl, len_pos hx, hd, fun r H' hlt k1 hd1 => ?_⟩
    wtm_at "rd"
    exact ⟨_, SqL.of (k1 _ _ hne hr1), _, atI_nat (List.getElem?_eq_getElem hlt), q _ _ (List.getElem_mem hlt) k1 hd1⟩
def spPickS : Sp := fun vs H Q _ => ∃ (dp : Addr) (l : List Nat), vs = [.ref dp, .str (S l)] ∧ l ≠ [] ∧ l.length ≤ 1000 ∧ Dr dp H ∧ ∀ c H', c ∈ l → Kp dp H H' → Dr dp H' → Q (.str (S [c])) H'
theorem ok_pickS (T : Txt K mg) : Cal P w K mg base CX0 2 "_law_pick" spPickS := by
  have c_l_take : Cal P w K mg base CX0 1 "_law_take" spTakeN := ok_takeN T
  refine cal0 T.f_l_pick T.g_l_pick sc_l_pick (fun _ _ _ _ _ _ us hl => match us, hl with | [_, _], _ => rfl) (fun vs H Q E h => ?_) (fun cdv A outer s H vs Q E hr h => ?_)
  · obtain ⟨dp, l, rfl, _⟩ := h; rfl
  · obtain ⟨dp, l, rfl, hx, hl, hd, q⟩ := h
    refine ⟨_, (pss_one (ps_ret (pe_ix ix_str (pv 1) (pe_c c_l_take hr (pa_cons (pv 0) (pa_cons (pe_callB call_len_str (by rfl) T.b_len boot_len (pa_cons (pv 1) pa_nil)) pa_nil))) (fun _ _ => rfl)))), ?_⟩
    wtm_at "rd"
    refine ⟨le_line (by omega), dp, l.length, rfl, len_pos hx, hd, fun r H' hlt k1 hd1 => ?_⟩
    wtm_at "rd"
    exact ⟨le_line (by omega), l[r], atI_nat (List.getElem?_eq_getElem hlt), q _ _ (List.getElem_mem hlt) k1 hd1⟩
end
end K26

end
section
set_option linter.all false
set_option maxRecDepth 100000
set_option maxHeartbeats 4000000
namespace K26
open PySem PySem.Spec PyProof.Rows L2
open SX (S S_len S_cat S_inj)
open PySem.NumText
local macro_rules | `(tactic| wtm_at "rd") => `(tactic| try simp only [tSeq, tAsg, tVar, tC, gName, tRet, tRetN, tIfS, tNext, tDrop, tOp, tUn, rI0, rI, rU, tTest, tB, tAnd, tOr, tNot, tAndV, tOrV, tNotV, tIf, tCB, tCons, tNil, tTup, tLst, tCall, tSl, tPart, tNoPart, tBM, tBM0, gTup, gCons, gNil, gSub, tAug, ipI, rEq, rNe, sc_ii, sc_ss, sc_bb, sc_nn, sc_is, sc_si, sc_ns, sc_sn, sc_ni, sc_in, z0, z1, z2, z3, z4, z5, if_true, if_false, Bool.not_eq_true', decide_eq_false_iff_not, rIxS, rSlS, rSlL, tAugS, rGetL, cast1, rIxL, rIxT, rSetL, rAppend, rPop, rPopAt, rReverse, rCat, tYes, iRng1, iRng2, tMkBad, rIn, tFld, sFld, sFldAug, rAdd, tMeth, tMake, tCallS, tBadF, tM1, iList, iTup, iEnum, iEnumT, iStr, tBreak, C8.tCut, tFor_eq, tLc_eq, wipe_1,
  L2.start, List.map_cons, List.map_nil, List.cons_append, List.nil_append, List.append_nil, List.length_cons, List.length_nil, Nat.reduceAdd, Nat.reduceSub, List.replicate_succ, List.replicate_zero,
  List.getElem?_cons_succ, List.getElem?_cons_zero, List.set_cons_succ, List.set_cons_zero, Option.some.injEq, V.int.injEq, V.str.injEq, V.ref.injEq, V.bl.injEq, List.cons.injEq, and_assoc, and_true, true_and, exists_eq_left', exists_eq_left, exists_and_left, exists_and_right, exists_eq, decide_eq_true_eq, reduceCtorEq, false_and, and_false, exists_false, false_or, or_false, S_len, S_eq, k0, k1, k2, k3, k4, k5, k6, k7, k8, k9, k10, k11, k12, k13, k14, k15, k16, k17, k18, k19, k20, k21, k22, k23, k24, k25, k26, k27, k28, k29, k30, k31, k32, k33, k34, k35, k36, k37, k38, k39, k40, k41, k42, k43, k44, k45, k46, k47, k48, k49, k50, k51, k52, k53, Nat.zero_add])

section
theorem join0 : ∀ ys : List (List Nat), TL.joinL [] ys = ys.flatten
  | [] => rfl
  | [p] => by simp [TL.joinL]
  | p :: q :: r => by
    show p ++ ([] ++ TL.joinL [] (q :: r)) = _
    rw [join0 (q :: r)]
    simp
theorem Kp.mutn {x p : Addr} {H H' : Hp} {o : HO} (k : Kp x H H') (hp : H p = none) : Kp x H (L2.upd H' p o) := fun b u hb hbo => by
  rw [upd_ne (ne_of_none hbo hp)]; exact k b u hb hbo
theorem Dr.upd_ne' {dp p : Addr} {H : Hp} {o : HO} (d : Dr dp H) (h : p ≠ dp) : Dr dp (L2.upd H p o) := by
  obtain ⟨ds, e⟩ := d
  exact ⟨ds, by rw [upd_ne h.symm]; exact e⟩
theorem Dr.ne {dp p : Addr} {H : Hp} (d : Dr dp H) (h : H p = none) : p ≠ dp := fun z => by
  obtain ⟨ds, e⟩ := d
  rw [z, e] at h; cases h
theorem sL_strs (ws : List (List Nat)) : (ws.map S).map V.str = sL ws := by simp
theorem sum_len (ws : List (List Nat)) : ((ws.map S).map (·.length)).sum = ws.flatten.length := by
  induction ws with
  | nil => rfl
  | cons u r ih =>
    rw [List.map_cons, List.map_cons, List.sum_cons, ih, List.flatten_cons, List.length_append, S_len]
theorem join_ws (ws : List (List Nat)) : Txt.join (S []) (ws.map S) = S ws.flatten := by rw [SX.join_S, join0]
theorem join_cs (cs : List Nat) : Txt.join (S []) ((cs.map fun c => [c]).map S) = S cs := by
  rw [join_ws]
  congr 1
  induction cs with
  | nil => rfl
  | cons c r ih => rw [List.map_cons, List.flatten_cons, ih]; rfl
theorem isWord_iff {u : List Nat} : isWord u = true ↔ u ≠ [] ∧ ∀ c ∈ u, isL c = true := by
  unfold isWord
  rw [Bool.and_eq_true, List.all_eq_true]
  cases u <;> simp
theorem flat_le {ws : List (List Nat)} {u : List Nat} (h : u ∈ ws) : u.length ≤ ws.flatten.length := by
  induction ws with
  | nil => cases h
  | cons a r ih =>
    rw [List.flatten_cons, List.length_append]
    rcases List.mem_cons.mp h with e | h
    · rw [e]; omega
    · have := ih h; omega
variable {P : Program} {w : World} {K : PySem.W.Frag} {mg : Str → Option Value} {base : Heap} {CB fI : Addr}
def WsOk (b : Nat) (ws : List (List Nat)) : Prop := ∀ u ∈ ws, isWord u = true ∧ u.length ≤ b
def spPool : Sp := fun vs H Q _ => ∃ (dp : Addr), vs = [.ref dp, .int 7] ∧ Dr dp H ∧ ∀ p H' ws, Kp dp H H' → Dr dp H' → p ≠ dp → H' p = some (.lst (sL ws)) → ws.length = 7 → WsOk 400 ws → Q (.ref p) H'
abbrev sc_l_pool_N : List Str := ["_law_draws_here", "_law_many", "_law_pool_here", "_law_k", "_law_letters", "_law_j", "_law_word"]
abbrev sc_l_pool_P : List Str := ["_law_draws_here", "_law_many"]
abbrev sc_l_pool_s : Scope := defScope s_l_pool
theorem sc_l_pool : FnScope sc_l_pool_N sc_l_pool_P sc_l_pool_s := ⟨rfl, rfl, rfl, by decide +kernel, rfl, by decide +kernel, by decide +kernel⟩

theorem ok_pool (T : Txt K mg) : Cal P w K mg base CX0 2 "_law_pool" spPool := by
  have c_l_take : Cal P w K mg base CX0 1 "_law_take" spTakeN := ok_takeN T
  refine cal0 T.f_l_pool T.g_l_pool sc_l_pool (fun _ _ _ _ _ _ us hl => match us, hl with | [_, _], _ => rfl) (fun vs H Q E h => ?_) (fun cdv A outer s H vs Q E hr h => ?_)
  · obtain ⟨dp, rfl, _⟩ := h; rfl
  · obtain ⟨dp, rfl, hd, q⟩ := h
    refine ⟨_, (pss_cons (ps_set (i := 2) sc_l_pool.nd rfl (by first | exact Or.inl rfl | exact Or.inr rfl) (pe_lst pa_nil))
      (pss_cons (ps_for PassesOwn.never rfl (pi_range1 (by rfl) T.b_range (pa_cons (pv 1) pa_nil)) (pg_name (i := 3) sc_l_pool.nd rfl (by first | exact Or.inl rfl | exact Or.inr rfl)) (pss_cons (ps_setLc (i := 4) (own := [("_law_j", 5)]) (g := gName 5) (tt := tYes) rfl sc_l_pool.nd rfl rfl (sw_true rfl rfl rfl (by decide +kernel)) (pi_range1 (by rfl) T.b_range (pa_cons (pe_op op_add pe_int (pe_c c_l_take hr (pa_cons (pv 0) (pa_cons pe_int pa_nil)))) pa_nil)) (blkOk_by (own := [("_law_j", 5)]) (N := sc_l_pool_N) (sc := sc_l_pool_s) (by decide +kernel)) (fun _ _ _ _ _ => pg_name (i := 5) sc_l_pool.nd rfl (Or.inl rfl)) (fun _ _ _ _ _ => pts_nil) (fun _ _ _ _ _ => (pe_ix ix_str pe_str (pe_c c_l_take hr (pa_cons (pv 0) (pa_cons pe_int pa_nil))) (fun _ _ => rfl))))
      (pss_cons (ps_set (i := 6) sc_l_pool.nd rfl (by first | exact Or.inl rfl | exact Or.inr rfl) (pe_join pe_str (pv 4)))
      (C8.pss_cut (ps_if (pt_cmpR op_in_seq (pv 6) (pv 2) rfl) (pss_one (ps_set (i := 6) sc_l_pool.nd rfl (by first | exact Or.inl rfl | exact Or.inr rfl) (pe_op op_add_str (pe_join pe_str (pv 2)) pe_str))) pss_nil)
      (pss_one (ps_expr (pe_bm PySem.F.plainAttrs_list PySem.F.slot_list_append PySem.F.type_list_append mt_append (pv 2) (pa_cons (pv 6) pa_nil))))))))
      (pss_one (ps_ret (pv 2))))), ?_⟩
    wtm_at "rd"
    intro p hp
    wtm_at "rd"
    refine ⟨by decide, by decide, ?_⟩
    obtain ⟨ds0, hds0⟩ := hd
    have hpd : p ≠ dp := (ne_of_none hds0 hp).symm
    obtain ⟨Pv, hPv⟩ := opq3 fun k σ H' => ∃ (ws : List (List Nat)) (u3 u4 u5 u6 : Option V), Kp dp H H' ∧ Dr dp H' ∧ H' p = some (.lst (sL ws)) ∧ ws.length = k ∧ (∀ u ∈ ws, isWord u = true) ∧ ws.flatten.length + 3 ≤ 3 * 2 ^ k ∧
      σ = [some (.ref dp), some (.int 7), some (.ref p), u3, u4, none, u6]
    refine forb (walk_range (lo := 0) (n := 7)) Pv ((hPv _ _ _).mpr ⟨[], none, none, none, none, (Kp.refl dp H).new hp, ⟨ds0, by rw [upd_ne hpd.symm]; exact hds0⟩, upd_same, rfl, by simp, by simp, rfl⟩) (fun _ _ _ _ => trivial) (fun k x σ H1 H2 hk pv y => ?_) (fun σ H1 pv => ?_)
    · obtain ⟨ws, u3, u4, u5, u6, hk1, hd1, hp1, hwl, hww, htot, rfl⟩ := (hPv _ _ _).mp pv
      obtain ⟨rfl, rfl⟩ := y
      wtm_at "rd"
      rw [Int.zero_add]
      have h64 : 2 ^ k ≤ 2 ^ 6 := Nat.pow_le_pow_right (by decide) (by omega)
      rw [show (2 : Nat) ^ 6 = 64 from rfl] at h64
      refine ⟨dp, 3, rfl, by decide, hd1, fun r H3 hr3 k3 hd3 => ?_⟩
      wtm_at "rd"
      refine ⟨by omega, by omega, ?_⟩
      rw [show ((1 : Int) + (r : Int)).toNat = 1 + r by omega]
      have hp3 := k3 _ _ hpd hp1
      have hk3 := hk1.trans k3
      have nod : ∀ {D : Addr}, H3 D = none → D ≠ dp := fun {D} hD z => by
        obtain ⟨ds, e⟩ := hd3
        rw [z, e] at hD; cases hD
      refine lcb (walk_range (lo := 0) (n := 1 + r)) (fun D i H' => Kp dp H3 H' ∧ Dr dp H' ∧ ∃ cs : List Nat, cs.length = i ∧ (∀ c ∈ cs, isL c = true) ∧ H' D = some (.lst (cs.map fun c => V.str (S [c])))) (fun D hD => ⟨(Kp.refl dp H3).new hD, ?_, [], rfl, by simp, upd_same⟩) (fun _ _ _ _ _ => trivial) (fun D i x H' H5 hD hi e y => ?_) (fun D H' hD e => ?_)
      · obtain ⟨ds, e⟩ := hd3
        exact ⟨ds, by rw [upd_ne (nod hD).symm]; exact e⟩
      · obtain ⟨k5, hd5, cs, hcl, hcw, hcD⟩ := e
        obtain ⟨rfl, rfl⟩ := y
        wtm_at "rd"
        refine ⟨dp, 26, rfl, by decide, hd5, fun c H6 hc k6 hd6 => ?_⟩
        wtm_at "rd"
        have hlet : letters[c]? = some (97 + c) := by
          have : ∀ c, c < 26 → letters[c]? = some (97 + c) := by decide
          exact this c hc
        refine ⟨le_line (by decide), 97 + c, atI_nat hlet, ?_⟩
        have hD6 := k6 _ _ (nod hD) hcD
        refine ⟨_, hD6, lt_line (by simp <;> omega), ?_, ?_, cs ++ [97 + c], by simp <;> omega, ?_, by rw [upd_same]; simp⟩
        · exact (k5.trans k6).mutn hD
        · exact hd6.upd_ne' (nod hD)
        · intro d hd
          rcases List.mem_append.mp hd with hd | hd
          · exact hcw d hd
          · rw [List.mem_singleton.mp hd]
            simp [isL]; omega
      · obtain ⟨k5, hd5, cs, hcl, hcw, hcD⟩ := e
        have hp5 := k5 _ _ hpd hp3
        wtm_at "rd"
        refine ⟨⟨_, rfl⟩, (cs.map fun c => [c]).map S, .inl (SqL.of (by rw [hcD]; simp)), ?_, ?_⟩
        · rw [sum_len]
          have : ((cs.map fun c => [c]).flatten).length = cs.length := by
            clear hcl hcw hcD
            induction cs with
            | nil => rfl
            | cons c r ih => rw [List.map_cons, List.flatten_cons, List.length_append, ih]; simp; omega
          omega
        · rw [join_cs]
          have hcw2 : isWord cs = true := isWord_iff.mpr ⟨fun z => by rw [z] at hcl; simp at hcl <;> omega, hcw⟩
          obtain ⟨Mid, hMid⟩ : ∃ Mid : L2.St → Hp → Prop, ∀ σ H', Mid σ H' ↔ ∃ (u : List Nat) (u3 u4 : Option V), isWord u = true ∧ u.length ≤ max 3 (ws.flatten.length + 1) ∧ Kp dp H H' ∧ Dr dp H' ∧ H' p = some (.lst (sL ws)) ∧ σ = [some (.ref dp), some (.int 7), some (.ref p), u3, u4, none, some (.str (S u))] := ⟨_, fun _ _ => Iff.rfl⟩
          refine ⟨Mid, ⟨_, .inl (SqL.of hp5), rfl, ?_, ite2 (fun h => ?_) (fun h => ?_)⟩, fun σ' H6 hm => ?_⟩
          · rw [List.all_eq_true]
            intro x hx
            obtain ⟨u, _, rfl⟩ := List.mem_map.mp hx
            rfl
          · refine ⟨⟨_, rfl⟩, ws.map S, .inl (SqL.of (by rw [hp5, sL_strs])), by rw [sum_len]; omega, ?_⟩
            rw [join_ws, S_cat]
            refine ⟨le_line (by rw [S_len]; omega), (hMid _ _).mpr ⟨ws.flatten ++ [122], _, _, isWord_iff.mpr ⟨by simp, fun c hc => ?_⟩, by simp; omega, hk3.trans k5, hd5, hp5, rfl⟩⟩
            rcases List.mem_append.mp hc with hc | hc
            · obtain ⟨u, hu, hcu⟩ := List.mem_flatten.mp hc
              exact (isWord_iff.mp (hww u hu)).2 c hcu
            · rw [List.mem_singleton.mp hc]; decide
          · exact (hMid _ _).mpr ⟨cs, _, _, hcw2, by omega, hk3.trans k5, hd5, hp5, rfl⟩
          · obtain ⟨u, u3, u4, hu, hul, hk6, hd6, hp6, rfl⟩ := (hMid _ _).mp hm
            wtm_at "rd"
            have h2k : 2 ^ (k + 1) = 2 * 2 ^ k := by rw [Nat.pow_succ]; omega
            have hk1' : 1 ≤ 2 ^ k := Nat.one_le_two_pow
            refine ⟨tyL hp6, _, hp6, lt_line (by simp; omega), (hPv _ _ _).mpr ⟨ws ++ [u], _, _, none, _, hk6.mutn hp, hd6.upd_ne' hpd, by rw [upd_same]; simp, by simp <;> omega, ?_, ?_, rfl⟩⟩
            · intro v hv
              rcases List.mem_append.mp hv with hv | hv
              · exact hww v hv
              · rw [List.mem_singleton.mp hv]; exact hu
            · rw [List.flatten_append, List.length_append, h2k, show ([u] : List (List Nat)).flatten = u by simp]
              omega
    · obtain ⟨ws, u3, u4, u5, u6, hk1, hd1, hp1, hwl, hww, htot, rfl⟩ := (hPv _ _ _).mp pv
      wtm_at "rd"
      exact q p H1 ws hk1 hd1 hpd hp1 hwl fun u hu => ⟨hww u hu, by have := flat_le hu; omega⟩
end
end K26

end
section
set_option linter.all false
set_option maxRecDepth 100000
set_option maxHeartbeats 4000000
namespace K26
open PySem PySem.Spec PyProof.Rows L2
open SX (S S_len S_cat S_inj)
open PySem.NumText
local macro_rules | `(tactic| wtm_at "rd") => `(tactic| try simp only [tSeq, tAsg, tVar, tC, gName, tRet, tRetN, tIfS, tNext, tDrop, tOp, tUn, rI0, rI, rU, tTest, tB, tAnd, tOr, tNot, tAndV, tOrV, tNotV, tIf, tCB, tCons, tNil, tTup, tLst, tCall, tSl, tPart, tNoPart, tBM, tBM0, gTup, gCons, gNil, gSub, tAug, ipI, rEq, rNe, sc_ii, sc_ss, sc_bb, sc_nn, sc_is, sc_si, sc_ns, sc_sn, sc_ni, sc_in, z0, z1, z2, z3, z4, z5, if_true, if_false, Bool.not_eq_true', decide_eq_false_iff_not, rIxS, rSlS, rSlL, tAugS, rGetL, cast1, rIxL, rIxT, rSetL, rAppend, rPop, rPopAt, rReverse, rCat, tYes, iRng1, iRng2, tMkBad, rIn, tFld, sFld, sFldAug, rAdd, tMeth, tMake, tCallS, tBadF, tM1, iList, iTup, iEnum, iEnumT, iStr, tBreak, C8.tCut, tFor_eq, tLc_eq, wipe_1,
  L2.start, List.map_cons, List.map_nil, List.cons_append, List.nil_append, List.append_nil, List.length_cons, List.length_nil, Nat.reduceAdd, Nat.reduceSub, List.replicate_succ, List.replicate_zero,
  List.getElem?_cons_succ, List.getElem?_cons_zero, List.set_cons_succ, List.set_cons_zero, Option.some.injEq, V.int.injEq, V.str.injEq, V.ref.injEq, V.bl.injEq, List.cons.injEq, and_assoc, and_true, true_and, exists_eq_left', exists_eq_left, exists_and_left, exists_and_right, exists_eq, decide_eq_true_eq, reduceCtorEq, false_and, and_false, exists_false, false_or, or_false, S_len, S_eq, k0, k1, k2, k3, k4, k5, k6, k7, k8, k9, k10, k11, k12, k13, k14, k15, k16, k17, k18, k19, k20, k21, k22, k23, k24, k25, k26, k27, k28, k29, k30, k31, k32, k33, k34, k35, k36, k37, k38, k39, k40, k41, k42, k43, k44, k45, k46, k47, k48, k49, k50, k51, k52, k53, Nat.zero_add])

section
def U (x : Str) : List Nat := x.cps.toList
theorem SU (x : Str) : S (U x) = x := by unfold S U; simp
theorem US (u : List Nat) : U (S u) = u := by unfold S U; simp
theorem perm_S {ys : List Str} {ws : List (List Nat)} (h : ys.Perm (ws.map S)) : ∃ ws' : List (List Nat), ys = ws'.map S ∧ ws'.Perm ws := by
  refine ⟨ys.map U, ?_, ?_⟩
  · rw [List.map_map]
    have e : S ∘ U = id := funext SU
    rw [e, List.map_id]
  · have := h.map U
    rw [List.map_map] at this
    have e : U ∘ S = id := funext US
    rwa [e, List.map_id] at this
theorem cutV_to {xs : List V} {k : Nat} (h : k ≤ xs.length) : cutV xs none (some (k : Int)) = xs.take k := by
  unfold cutV
  rw [HT.sIx_nat, HT.sIx_none, Nat.min_eq_left h, Nat.sub_zero, List.drop_zero]
theorem cutV_from {xs : List V} {k : Nat} (h : k ≤ xs.length) : cutV xs (some (k : Int)) none = xs.drop k := by
  unfold cutV
  rw [HT.sIx_nat, HT.sIx_none, Nat.min_eq_left h]
  exact List.take_of_length_le (by rw [List.length_drop]; exact Nat.le_refl _)
/-- terms as the law makes them -/
def TB (t : Tm) : Prop := OkTm t ∧ match t with
  | .int i => i.natAbs < 10 ^ 57
  | .var u => u.length ≤ 400
  | .word u => u.length ≤ 400
theorem TB.txt_len {t : Tm} (h : TB t) : (txt (tokOf t)).length ≤ 402 ∧ (∀ i, t = .int i → (txt (tokOf t)).length ≤ 58) := by
  cases t with
  | var u => exact ⟨Nat.le_trans h.2 (by decide), nofun⟩
  | word u =>
    have := h.2
    refine ⟨?_, nofun⟩
    simp [tokOf, txt]
    omega
  | int i =>
    have hl : (natL i.natAbs).length ≤ 57 := TL.numL_len (by decide) h.2
    have e : (txt (tokOf (.int i))).length ≤ 58 := by
      show (intL i).length ≤ 58
      unfold intL
      split
      · simp; omega
      · omega
    exact ⟨by omega, fun _ _ => e⟩
theorem TB.tmB {t : Tm} (h : TB t) : TmB t := by
  refine ⟨h.1, Nat.le_trans h.txt_len.1 (by decide), fun i e => ?_⟩
  subst e
  by_cases hz : i.natAbs = 0
  · rw [hz]; decide
  · refine (Nat.log2_lt hz).mpr (Nat.lt_of_lt_of_le h.2 ?_)
    calc 10 ^ 57 ≤ (2 ^ 4) ^ 57 := Nat.pow_le_pow_left (by decide) 57
      _ = 2 ^ 228 := by rw [← Nat.pow_mul]
      _ ≤ 2 ^ 1920 := Nat.pow_le_pow_right (by decide) (by decide)
def VB (t : Tm) : Prop := TB t ∧ ∀ x, t ≠ .var x
abbrev vL (ts : List Tm) : List V := ts.map vV
theorem small_int {i : Int} (h : i.natAbs ≤ 1000000) : VB (.int i) := ⟨⟨trivial, Nat.lt_of_le_of_lt h (by decide)⟩, nofun⟩
theorem VB.word {u : List Nat} (h : isWord u = true) (hl : u.length ≤ 400) : VB (.word u) := ⟨⟨h, hl⟩, nofun⟩
variable {P : Program} {w : World} {K : PySem.W.Frag} {mg : Str → Option Value} {base : Heap} {CB fI : Addr}
def spValues : Sp := fun vs H Q _ => ∃ (dp wp : Addr) (ws : List (List Nat)), vs = [.ref dp, .ref wp] ∧ H wp = some (.lst (sL ws)) ∧ ws.length = 7 ∧ WsOk 400 ws ∧ wp ≠ dp ∧ Dr dp H ∧
  ∀ p H' ts, Kp dp H H' → Dr dp H' → p ≠ dp → H' p = some (.lst (vL ts)) → ts.length = 3 → (∀ t ∈ ts, VB t) → Q (.ref p) H'
abbrev sc_l_values_N : List Str := ["_law_draws_here", "_law_words", "_law_low", "_law_values_here"]
abbrev sc_l_values_P : List Str := ["_law_draws_here", "_law_words"]
abbrev sc_l_values_s : Scope := defScope s_l_values
theorem sc_l_values : FnScope sc_l_values_N sc_l_values_P sc_l_values_s := ⟨rfl, rfl, rfl, by decide +kernel, rfl, by decide +kernel, by decide +kernel⟩

theorem ok_values (T : Txt K mg) : Cal P w K mg base CX0 2 "_law_values" spValues := by
  have c_l_take : Cal P w K mg base CX0 1 "_law_take" spTakeN := ok_takeN T
  refine cal0 T.f_l_values T.g_l_values sc_l_values (fun _ _ _ _ _ _ us hl => match us, hl with | [_, _], _ => rfl) (fun vs H Q E h => ?_) (fun cdv A outer s H vs Q E hr h => ?_)
  · obtain ⟨dp, wp, ws, rfl, _⟩ := h; rfl
  · obtain ⟨dp, wp, ws, rfl, hw, hwl, hwo, hne, hd, q⟩ := h
    refine ⟨_, (pss_cons (ps_set (i := 2) sc_l_values.nd rfl (by first | exact Or.inl rfl | exact Or.inr rfl) (pe_op op_sub (pe_c c_l_take hr (pa_cons (pv 0) (pa_cons pe_int pa_nil))) pe_int))
      (pss_cons (ps_set (i := 3) sc_l_values.nd rfl (by first | exact Or.inl rfl | exact Or.inr rfl) (pe_lst (pa_cons (pv 2) (pa_cons (pe_op op_add (pe_op op_add (pv 2) pe_int) (pe_c c_l_take hr (pa_cons (pv 0) (pa_cons pe_int pa_nil)))) (pa_cons (pe_ix ix_list (pv 1) pe_int (fun _ _ => rfl)) pa_nil)))))
      (pss_cons (ps_if (pt_cmpR op_eq (pe_c c_l_take hr (pa_cons (pv 0) (pa_cons pe_int pa_nil))) pe_int (nomark _)) (pss_one (ps_asg (pe_ix ix_list (pv 1) pe_int (fun _ _ => rfl)) (pg_sub (pv 3) pe_int set_list))) pss_nil)
      (pss_one (ps_ret (pv 3)))))), ?_⟩
    have w0 : (sL ws)[0]? = some (.str (S ws[0])) := by rw [List.getElem?_map, List.getElem?_eq_getElem (by omega)]; rfl
    have w1 : (sL ws)[1]? = some (.str (S ws[1])) := by rw [List.getElem?_map, List.getElem?_eq_getElem (by omega)]; rfl
    have o0 := hwo ws[0] (List.getElem_mem _)
    have o1 := hwo ws[1] (List.getElem_mem _)
    wtm_at "rd"
    refine ⟨dp, 7, rfl, by decide, hd, fun r1 H1 hr1 k1 hd1 => ?_⟩
    wtm_at "rd"
    refine ⟨dp, 5, rfl, by decide, hd1, fun r2 H2 hr2 k2 hd2 => ?_⟩
    have k12 := k1.trans k2
    wtm_at "rd"
    refine ⟨_, SqL.of (k12 _ _ hne hw), _, atI_nat (j := 0) w0, fun p hp => ?_⟩
    wtm_at "rd"
    have hpd := hd2.ne hp
    have k3 := k12.new (o := .lst (vL [.int ((r1 : Int) - 3), .int ((r1 : Int) - 3 + 1 + (r2 : Int)), .word ws[0]])) hp
    refine ⟨dp, 3, rfl, by decide, hd2.upd_ne' hpd, fun r3 H4 hr3 k4 hd4 => ?_⟩
    have hp4 := k4 _ _ hpd upd_same
    wtm_at "rd"
    refine ite2 (fun h => ?_) (fun h => ?_)
    · refine ⟨_, SqL.of ((k3.trans k4) _ _ hne hw), _, atI_nat (j := 1) w1, _, hp4, 1, rfl, ?_⟩
      refine q p _ [.int ((r1 : Int) - 3), .word ws[1], .word ws[0]] ((k3.trans k4).mutn ?_) (hd4.upd_ne' hpd) hpd (by rw [upd_same]; rfl) rfl ?_
      · cases e : H p with
        | none => rfl
        | some o => rw [k12 _ _ hpd e] at hp; cases hp
      · intro t ht
        simp at ht
        rcases ht with rfl | rfl | rfl
        · exact small_int (by omega)
        · exact VB.word o1.1 o1.2
        · exact VB.word o0.1 o0.2
    · refine q p _ [.int ((r1 : Int) - 3), .int ((r1 : Int) - 3 + 1 + (r2 : Int)), .word ws[0]] (k3.trans k4) hd4 hpd hp4 rfl ?_
      intro t ht
      simp at ht
      rcases ht with rfl | rfl | rfl
      · exact small_int (by omega)
      · exact small_int (by omega)
      · exact VB.word o0.1 o0.2
def spVal : Sp := fun vs H Q _ => ∃ (dp vp : Addr) (ts : List Tm), vs = [.ref dp, .ref vp] ∧ H vp = some (.lst (vL ts)) ∧ ts.length = 3 ∧ vp ≠ dp ∧ Dr dp H ∧ ∀ t H', t ∈ ts → Kp dp H H' → Dr dp H' → Q (vV t) H'
abbrev sc_l_value_N : List Str := ["_law_draws_here", "_law_values_here"]
abbrev sc_l_value_P : List Str := ["_law_draws_here", "_law_values_here"]
abbrev sc_l_value_s : Scope := defScope s_l_value
theorem sc_l_value : FnScope sc_l_value_N sc_l_value_P sc_l_value_s := ⟨rfl, rfl, rfl, by decide +kernel, rfl, by decide +kernel, by decide +kernel⟩

theorem ok_value' (T : Txt K mg) : Cal P w K mg base CX0 2 "_law_value" spVal := by
  have c_l_take : Cal P w K mg base CX0 1 "_law_take" spTakeN := ok_takeN T
  refine cal0 T.f_l_value T.g_l_value sc_l_value (fun _ _ _ _ _ _ us hl => match us, hl with | [_, _], _ => rfl) (fun vs H Q E h => ?_) (fun cdv A outer s H vs Q E hr h => ?_)
  · obtain ⟨dp, vp, ts, rfl, _⟩ := h; rfl
  · obtain ⟨dp, vp, ts, rfl, hv, htl, hne, hd, q⟩ := h
    refine ⟨_, (pss_one (ps_ret (pe_ix ix_list (pv 1) (pe_ix ix_list (pe_lst (pa_cons pe_int (pa_cons pe_int (pa_cons pe_int (pa_cons pe_int (pa_cons pe_int pa_nil)))))) (pe_c c_l_take hr (pa_cons (pv 0) (pa_cons pe_int pa_nil))) (fun _ _ => rfl)) (fun _ _ => rfl)))), ?_⟩
    wtm_at "rd"
    intro p hp
    have hpd := hd.ne hp
    refine ⟨dp, 5, rfl, by decide, hd.upd_ne' hpd, fun r H1 hr1 k1 hd1 => ?_⟩
    wtm_at "rd"
    have k2 := ((Kp.refl dp H).new (o := .lst [.int 0, .int 1, .int 0, .int 2, .int 1]) hp).trans k1
    have hat : ∃ j : Nat, j < 3 ∧ ([V.int 0, .int 1, .int 0, .int 2, .int 1])[r]? = some (.int (j : Int)) := by
      have : ∀ r, r < 5 → ∃ j : Nat, j < 3 ∧ ([V.int 0, .int 1, .int 0, .int 2, .int 1])[r]? = some (.int (j : Int)) := by
        intro r hr
        match r, hr with
        | 0, _ => exact ⟨0, by decide, rfl⟩
        | 1, _ => exact ⟨1, by decide, rfl⟩
        | 2, _ => exact ⟨0, by decide, rfl⟩
        | 3, _ => exact ⟨2, by decide, rfl⟩
        | 4, _ => exact ⟨1, by decide, rfl⟩
      exact this r hr1
    obtain ⟨j, hj, hat⟩ := hat
    refine ⟨_, SqL.of (k1 _ _ hpd upd_same), _, atI_nat hat, _, _, rfl, SqL.of (k2 _ _ hne hv), _, atI_nat (j := j) (by rw [List.getElem?_map, List.getElem?_eq_getElem (by omega)]; rfl), ?_⟩
    exact q _ _ (List.getElem_mem _) k2 hd1
end
end K26

end
section
set_option linter.all false
set_option maxRecDepth 100000
set_option maxHeartbeats 4000000
namespace K26
open PySem PySem.Spec PyProof.Rows L2
open SX (S S_len S_cat S_inj)
open PySem.NumText
local macro_rules | `(tactic| wtm_at "rd") => `(tactic| try simp only [tSeq, tAsg, tVar, tC, gName, tRet, tRetN, tIfS, tNext, tDrop, tOp, tUn, rI0, rI, rU, tTest, tB, tAnd, tOr, tNot, tAndV, tOrV, tNotV, tIf, tCB, tCons, tNil, tTup, tLst, tCall, tSl, tPart, tNoPart, tBM, tBM0, gTup, gCons, gNil, gSub, tAug, ipI, rEq, rNe, sc_ii, sc_ss, sc_bb, sc_nn, sc_is, sc_si, sc_ns, sc_sn, sc_ni, sc_in, z0, z1, z2, z3, z4, z5, if_true, if_false, Bool.not_eq_true', decide_eq_false_iff_not, rIxS, rSlS, rSlL, tAugS, rGetL, cast1, rIxL, rIxT, rSetL, rAppend, rPop, rPopAt, rReverse, rCat, tYes, iRng1, iRng2, tMkBad, rIn, tFld, sFld, sFldAug, rAdd, tMeth, tMake, tCallS, tBadF, tM1, iList, iTup, iEnum, iEnumT, iStr, tBreak, C8.tCut, tFor_eq, tLc_eq, wipe_1,
  L2.start, List.map_cons, List.map_nil, List.cons_append, List.nil_append, List.append_nil, List.length_cons, List.length_nil, Nat.reduceAdd, Nat.reduceSub, List.replicate_succ, List.replicate_zero,
  List.getElem?_cons_succ, List.getElem?_cons_zero, List.set_cons_succ, List.set_cons_zero, Option.some.injEq, V.int.injEq, V.str.injEq, V.ref.injEq, V.bl.injEq, List.cons.injEq, and_assoc, and_true, true_and, exists_eq_left', exists_eq_left, exists_and_left, exists_and_right, exists_eq, decide_eq_true_eq, reduceCtorEq, false_and, and_false, exists_false, false_or, or_false, S_len, S_eq, k0, k1, k2, k3, k4, k5, k6, k7, k8, k9, k10, k11, k12, k13, k14, k15, k16, k17, k18, k19, k20, k21, k22, k23, k24, k25, k26, k27, k28, k29, k30, k31, k32, k33, k34, k35, k36, k37, k38, k39, k40, k41, k42, k43, k44, k45, k46, k47, k48, k49, k50, k51, k52, k53, Nat.zero_add])

section
abbrev SchR (H : Hp) : List V → List (List Nat × Nat) → Prop := Paired fun v n => ∃ a, v = V.ref a ∧ H a = some (.tup [.str (S n.1), .int (n.2 : Int)])
theorem SchR.kt {H H' : Hp} {xs : List V} {ns : List (List Nat × Nat)} (k : KT H H') (h : SchR H xs ns) : SchR H' xs ns := Paired.mapP h fun _ _ ⟨a, e, h⟩ => ⟨a, e, k _ _ h⟩
theorem KT.dr {dp : Addr} {H H' : Hp} (k : Kp dp H H') (d : Dr dp H) : KT H H' := let ⟨_, e⟩ := d; KT.kp k e fun _ z => by cases z
structure WorldR (dp : Addr) (H : Hp) (wp : Addr) (sch : List (List Nat × Nat)) (ns : List (List Nat)) (ts : List Tm) : Prop where
  ex : ∃ sp np vp sxs, H wp = some (.lst [.ref sp, .ref np, .ref vp]) ∧ H sp = some (.tup sxs) ∧ SchR H sxs sch ∧ H np = some (.lst (sL ns)) ∧ H vp = some (.lst (vL ts)) ∧ np ≠ dp ∧ vp ≠ dp ∧ wp ≠ dp
structure WOk (sch : List (List Nat × Nat)) (ns : List (List Nat)) (ts : List Tm) : Prop where
  l0 : 1 ≤ sch.length
  l1 : sch.length ≤ 4
  sc : ∀ n ∈ sch, isWord n.1 = true ∧ n.1.length ≤ 400 ∧ n.2 ≤ 8
  nl : ns.length = 3
  nw : WsOk 400 ns
  tl : ts.length = 3
  tv : ∀ t ∈ ts, VB t
theorem WorldR.kp {dp : Addr} {H H' : Hp} {wp : Addr} {sch : List (List Nat × Nat)} {ns : List (List Nat)} {ts : List Tm} (h : WorldR dp H wp sch ns ts) (k : Kp dp H H') (d : Dr dp H) : WorldR dp H' wp sch ns ts := by
  obtain ⟨sp, np, vp, sxs, h1, h2, h3, h4, h5, h6, h7, h8⟩ := h.ex
  have kt := KT.dr k d
  exact ⟨sp, np, vp, sxs, k _ _ h8 h1, kt _ _ h2, h3.kt kt, k _ _ h6 h4, k _ _ h7 h5, h6, h7, h8⟩
/-- one of a list of numbers that was written, by a draw -/
theorem lit_at {ks : List Nat} {r : Nat} (h : r < ks.length) : ∃ j, j ∈ ks ∧ (ks.map fun (k : Nat) => V.int (k : Int))[r]? = some (.int (j : Int)) := ⟨ks[r], List.getElem_mem h, by rw [List.getElem?_map, List.getElem?_eq_getElem h]; rfl⟩
/-- one of a list that was written, by a draw -/
theorem at_lt {α : Type} {xs : List α} {r : Nat} (h : r < xs.length) : ∃ v, xs[r]? = some v ∧ v ∈ xs := ⟨xs[r], List.getElem?_eq_getElem h, List.getElem_mem h⟩
theorem Kp.none_of {x p : Addr} {H H' : Hp} (k : Kp x H H') (hp : H' p = none) (hne : p ≠ x) : H p = none := by
  cases e : H p with
  | none => rfl
  | some o => rw [k _ _ hne e] at hp; cases hp
variable {P : Program} {w : World} {K : PySem.W.Frag} {mg : Str → Option Value} {base : Heap} {CB fI : Addr}
def spWorld : Sp := fun vs H Q _ => ∃ (dp : Addr), vs = [.ref dp] ∧ Dr dp H ∧ ∀ wp H' sch ns ts, Kp dp H H' → Dr dp H' → WorldR dp H' wp sch ns ts → WOk sch ns ts → Q (.ref wp) H'
abbrev sc_l_world_N : List Str := ["_law_draws_here", "_law_pool_here", "_law_schema", "_law_name"]
abbrev sc_l_world_P : List Str := ["_law_draws_here"]
abbrev sc_l_world_s : Scope := defScope s_l_world
theorem sc_l_world : FnScope sc_l_world_N sc_l_world_P sc_l_world_s := ⟨rfl, rfl, rfl, by decide +kernel, rfl, by decide +kernel, by decide +kernel⟩

theorem ok_world (T : Txt K mg) : Cal P w K mg base CX0 3 "_law_world" spWorld := by
  have c_l_take : Cal P w K mg base CX0 1 "_law_take" spTakeN := ok_takeN T
  have c_l_pool : Cal P w K mg base CX0 2 "_law_pool" spPool := ok_pool T
  have c_l_values : Cal P w K mg base CX0 2 "_law_values" spValues := ok_values T
  refine cal0 T.f_l_world T.g_l_world sc_l_world (fun _ _ _ _ _ _ us hl => match us, hl with | [_], _ => rfl) (fun vs H Q E h => ?_) (fun cdv A outer s H vs Q E hr h => ?_)
  · obtain ⟨dp, rfl, _⟩ := h; rfl
  · obtain ⟨dp, rfl, hd, q⟩ := h
    refine ⟨_, (pss_cons (ps_set (i := 1) sc_l_world.nd rfl (by first | exact Or.inl rfl | exact Or.inr rfl) (pe_c c_l_pool hr (pa_cons (pv 0) (pa_cons pe_int pa_nil))))
      (pss_cons (ps_set (i := 2) sc_l_world.nd rfl (by first | exact Or.inl rfl | exact Or.inr rfl) (pe_lst pa_nil))
      (pss_cons (ps_for PassesOwn.never rfl (pi_list (pe_callB cr_sortedS (by rfl) T.b_sorted boot_sorted_ (pa_cons (pe_slice sl_list (pv 1) po_none (po_some (pe_ix ix_list (pe_lst (pa_cons pe_int (pa_cons pe_int (pa_cons pe_int (pa_cons pe_int pa_nil))))) (pe_c c_l_take hr (pa_cons (pv 0) (pa_cons pe_int pa_nil))) (fun _ _ => rfl)))) pa_nil))) (pg_name (i := 3) sc_l_world.nd rfl (by first | exact Or.inl rfl | exact Or.inr rfl)) (pss_one (ps_expr (pe_bm PySem.F.plainAttrs_list PySem.F.slot_list_append PySem.F.type_list_append mt_append (pv 2) (pa_cons (pe_tup (pa_cons (pv 3) (pa_cons (pe_ix ix_list (pe_lst (pa_cons pe_int (pa_cons pe_int (pa_cons pe_int (pa_cons pe_int (pa_cons pe_int (pa_cons pe_int (pa_cons pe_int (pa_cons pe_int pa_nil))))))))) (pe_c c_l_take hr (pa_cons (pv 0) (pa_cons pe_int pa_nil))) (fun _ _ => rfl)) pa_nil))) pa_nil)))))
      (pss_one (ps_ret (pe_lst (pa_cons (pe_callTy call_tuple_of (by rfl) T.b_tuple boot_tuple_ (pa_cons (pv 2) pa_nil)) (pa_cons (pe_callB cr_sortedS (by rfl) T.b_sorted boot_sorted_ (pa_cons (pe_slice sl_list (pv 1) (po_some pe_int) po_none) pa_nil)) (pa_cons (pe_c c_l_values hr (pa_cons (pv 0) (pa_cons (pv 1) pa_nil))) pa_nil))))))))), ?_⟩
    wtm_at "rd"
    refine ⟨dp, rfl, hd, fun pp H1 ws k1 hd1 hpd hp1 hwl hwo => ?_⟩
    wtm_at "rd"
    intro sp hsp
    have hsd := hd1.ne hsp
    wtm_at "rd"
    intro p1 hp1'
    have hp1d := (hd1.upd_ne' hsd).ne hp1'
    refine ⟨dp, 4, rfl, by decide, (hd1.upd_ne' hsd).upd_ne' hp1d, fun r2 H2 hr2 k2 hd2 => ?_⟩
    wtm_at "rd"
    have k12 : Kp dp H1 H2 := (((Kp.refl dp H1).new hsp).new hp1').trans k2
    obtain ⟨j2, hj2, hat2⟩ := lit_at (ks := [3, 2, 3, 4]) hr2
    have hj2' : 2 ≤ j2 ∧ j2 ≤ 4 := by simp at hj2; omega
    have hsl : (sL ws).length = 7 := by rw [List.length_map, hwl]
    have hpp2 := k12 _ _ hpd hp1
    have hsp2 : H2 sp = some (.lst []) := k2 _ _ hsd ((same_new hp1' _) _ _ upd_same)
    refine ⟨_, SqL.of (k2 _ _ hp1d upd_same), _, atI_nat hat2, _, rfl, _, SqL.of hpp2, fun p3 hp3 => ?_⟩
    rw [cutV_to (by omega)]
    have hp3d := hd2.ne hp3
    refine ⟨p3, (ws.take j2).map S, rfl, SqL.of (by rw [upd_same, sL_strs, ← List.map_take]), by simp; omega, fun ys p4 hperm _ hp4 => ?_⟩
    obtain ⟨ws', rfl, hperm'⟩ := perm_S hperm
    have hp4d := (hd2.upd_ne' hp3d).ne hp4
    have k4 : Kp dp H2 (upd (upd H2 p3 (.lst ((sL ws).take j2))) p4 (.lst ((ws'.map S).map V.str))) := ((Kp.refl dp H2).new hp3).new hp4
    have hd4 := (hd2.upd_ne' (o := .lst ((sL ws).take j2)) hp3d).upd_ne' (o := .lst ((ws'.map S).map V.str)) hp4d
    have h44 : upd (upd H2 p3 (.lst ((sL ws).take j2))) p4 (.lst ((ws'.map S).map V.str)) p4 = some (.lst (sL ws')) := by rw [upd_same, sL_strs]
    have hspp4 : sp ≠ p4 := ne_of_none ((same_new hp3 _) _ _ hsp2) hp4
    generalize upd (upd H2 p3 (.lst ((sL ws).take j2))) p4 (.lst ((ws'.map S).map V.str)) = H4 at k4 hd4 h44 ⊢
    have hw'l : ws'.length = j2 := by rw [hperm'.length_eq, List.length_take]; omega
    have hw'o : WsOk 400 ws' := fun u hu => hwo u (List.mem_of_mem_take (hperm'.mem_iff.mp hu))
    have hsp4 := k4 _ _ hsd hsp2
    refine ⟨p4, rfl, ⟨_, SqL.of h44⟩, ?_⟩
    obtain ⟨Pv, hPv⟩ := opq3 fun i σ H' => ∃ (sxs : List V) (sch : List (List Nat × Nat)) (u3 : Option V), Kp dp H1 H' ∧ Dr dp H' ∧ H' p4 = some (.lst (sL ws')) ∧ H' sp = some (.lst sxs) ∧ SchR H' sxs sch ∧ sch.length = i ∧ (∀ n ∈ sch, isWord n.1 = true ∧ n.1.length ≤ 400 ∧ n.2 ≤ 8) ∧
      σ = [some (.ref dp), some (.ref pp), some (.ref sp), u3]
    have k14 := k12.trans k4
    have hw'n : (sL ws').length = j2 := by rw [List.length_map, hw'l]
    refine forb (walk_list (xs := sL ws')) Pv ((hPv _ _ _).mpr ⟨[], [], none, k14, hd4, h44, hsp4, .nil, rfl, by simp, rfl⟩) (fun i σ H' pv => ?_) (fun i x σ H' H5 hi pv y => ?_) (fun σ H' pv => ?_)
    · obtain ⟨sxs, sch, u3, _, _, h, _⟩ := (hPv _ _ _).mp pv
      exact SqL.of h
    · obtain ⟨sxs, sch, u3, k5, hd5, h54, hs5, hsr, hsl5, hso, rfl⟩ := (hPv _ _ _).mp pv
      obtain ⟨rfl, hx⟩ := y
      rw [List.getElem?_map] at hx
      obtain ⟨u, hu, rfl⟩ := Option.map_eq_some_iff.mp hx
      have huo := hw'o u (List.mem_of_getElem? hu)
      have hsxl := hsr.length
      wtm_at "rd"
      refine ⟨tyL hs5, le_line (by decide), fun p6 hp6 => ?_⟩
      have hp6d := hd5.ne hp6
      refine ⟨dp, 8, rfl, by decide, hd5.upd_ne' hp6d, fun r7 H7 hr7 k7 hd7 => ?_⟩
      wtm_at "rd"
      obtain ⟨j7, hj7, hat7⟩ := lit_at (ks := [2, 1, 2, 1, 2, 0, 1, 3]) hr7
      have hj7' : j7 ≤ 8 := by simp at hj7; omega
      have k57 : Kp dp H5 H7 := ((Kp.refl dp H5).new hp6).trans k7
      have hs7 := k57 _ _ hsd hs5
      have h74 := k57 _ _ hp4d h54
      refine ⟨_, SqL.of (k7 _ _ hp6d upd_same), _, atI_nat hat7, fun p8 hp8 => ⟨_, (same_new hp8 _) _ _ hs7, lt_line (by omega), ?_⟩⟩
      have k8 : Kp dp H5 (upd H7 p8 (.tup [.str (S u), .int (j7 : Int)])) := k57.new hp8
      have hd8 := hd7.upd_ne' (o := .tup [.str (S u), .int (j7 : Int)]) (hd7.ne hp8)
      have hs8 := (same_new hp8 (.tup [.str (S u), .int (j7 : Int)])) _ _ hs7
      refine (hPv _ _ _).mpr ⟨sxs ++ [.ref p8], sch ++ [(u, j7)], _, (k5.trans k8).mutn hsp, hd8.upd_ne' hsd, ?_, upd_same, ?_, by simp [hsl5], ?_, rfl⟩
      · rw [upd_ne hspp4.symm]
        exact (same_new hp8 _) _ _ h74
      · have kt := ((KT.dr k8 hd5)).upd (x := sp) (u := .lst (sxs ++ [.ref p8])) hs8 fun _ z => by cases z
        refine pr_app (hsr.kt kt) (.cons ⟨p8, rfl, ?_⟩ .nil)
        rw [upd_ne (fun z => by rw [z] at hp8; rw [hs7] at hp8; cases hp8), upd_same]
      · intro n hn
        rcases List.mem_append.mp hn with hn | hn
        · exact hso n hn
        · rw [List.mem_singleton.mp hn]; exact ⟨huo.1, huo.2, hj7'⟩
    · obtain ⟨sxs, sch, u3, k5, hd5, h54, hs5, hsr, hsl5, hso, rfl⟩ := (hPv _ _ _).mp pv
      rw [hw'n] at hsl5
      wtm_at "rd"
      refine ⟨_, .inl ⟨SqL.of hs5, fun l hl => ?_⟩⟩
      have hld := hd5.ne hl
      have hd6 := hd5.upd_ne' (o := .tup sxs) hld
      have k6 := k5.new (o := .tup sxs) hl
      refine ⟨_, SqL.of (k6 _ _ hpd hp1), fun p7 hp7 => ?_⟩
      rw [show ((4 : Int)) = ((4 : Nat) : Int) from rfl, cutV_from (by omega)]
      have hp7d := hd6.ne hp7
      refine ⟨p7, (ws.drop 4).map S, rfl, SqL.of (by rw [upd_same, sL_strs, ← List.map_drop]), by simp; omega, fun ys p8 hperm8 _ hp8 => ?_⟩
      obtain ⟨ns, rfl, hpn⟩ := perm_S hperm8
      have hd7 := hd6.upd_ne' (o := .lst ((sL ws).drop 4)) hp7d
      have hp8d := hd7.ne hp8
      have hd8 := hd7.upd_ne' (o := .lst ((ns.map S).map V.str)) hp8d
      have s68 : Same (upd H' l (.tup sxs)) (upd (upd (upd H' l (.tup sxs)) p7 (.lst ((sL ws).drop 4))) p8 (.lst ((ns.map S).map V.str))) := (same_new hp7 _).trans (same_new hp8 _)
      have h88 : upd (upd (upd H' l (.tup sxs)) p7 (.lst ((sL ws).drop 4))) p8 (.lst ((ns.map S).map V.str)) p8 = some (.lst (sL ns)) := by rw [upd_same, sL_strs]
      have k8 := k6.trans (Kp.same s68)
      have hl8 := s68 _ _ upd_same
      have hr8 : SchR (upd H' l (.tup sxs)) sxs sch := hsr.kt (KT.same (same_new hl _))
      have hr9 := hr8.kt (KT.same s68)
      generalize upd (upd (upd H' l (.tup sxs)) p7 (.lst ((sL ws).drop 4))) p8 (.lst ((ns.map S).map V.str)) = H8 at hd8 s68 h88 k8 hl8 hr9 ⊢
      refine ⟨dp, pp, ws, rfl, k8 _ _ hpd hp1, hwl, hwo, hpd, hd8, fun vp H9 ts k9 hd9 hvd hv htl htv => ?_⟩
      wtm_at "rd"
      intro wp hwp
      have hwd := hd9.ne hwp
      have kt9 := KT.dr k9 hd8
      have sw := same_new hwp (.lst [.ref l, .ref p8, .ref vp])
      refine q wp _ sch ns ts (k1.trans ((k8.trans k9).new hwp)) (hd9.upd_ne' hwd) ⟨l, p8, vp, sxs, upd_same, sw _ _ (kt9 _ _ hl8), hr9.kt (kt9.trans (KT.same sw)), sw _ _ (k9 _ _ hp8d h88), sw _ _ hv, hp8d, hvd, hwd⟩ ⟨by omega, by omega, hso, ?_, fun u hu => hwo u (List.mem_of_mem_drop (hpn.mem_iff.mp hu)), htl, htv⟩
      rw [hpn.length_eq, List.length_drop, hwl]
end
end K26

end
section
set_option linter.all false
set_option maxRecDepth 100000
set_option maxHeartbeats 4000000
namespace K26
open PySem PySem.Spec PyProof.Rows L2
open SX (S S_len S_cat S_inj)
open PySem.NumText
local macro_rules | `(tactic| wtm_at "rd") => `(tactic| try simp only [tSeq, tAsg, tVar, tC, gName, tRet, tRetN, tIfS, tNext, tDrop, tOp, tUn, rI0, rI, rU, tTest, tB, tAnd, tOr, tNot, tAndV, tOrV, tNotV, tIf, tCB, tCons, tNil, tTup, tLst, tCall, tSl, tPart, tNoPart, tBM, tBM0, gTup, gCons, gNil, gSub, tAug, ipI, rEq, rNe, sc_ii, sc_ss, sc_bb, sc_nn, sc_is, sc_si, sc_ns, sc_sn, sc_ni, sc_in, z0, z1, z2, z3, z4, z5, if_true, if_false, Bool.not_eq_true', decide_eq_false_iff_not, rIxS, rSlS, rSlL, tAugS, rGetL, cast1, rIxL, rIxT, rSetL, rAppend, rPop, rPopAt, rReverse, rCat, tYes, iRng1, iRng2, tMkBad, rIn, tFld, sFld, sFldAug, rAdd, tMeth, tMake, tCallS, tBadF, tM1, iList, iTup, iEnum, iEnumT, iStr, tBreak, C8.tCut, tFor_eq, tLc_eq, wipe_1,
  L2.start, List.map_cons, List.map_nil, List.cons_append, List.nil_append, List.append_nil, List.length_cons, List.length_nil, Nat.reduceAdd, Nat.reduceSub, List.replicate_succ, List.replicate_zero,
  List.getElem?_cons_succ, List.getElem?_cons_zero, List.set_cons_succ, List.set_cons_zero, Option.some.injEq, V.int.injEq, V.str.injEq, V.ref.injEq, V.bl.injEq, List.cons.injEq, and_assoc, and_true, true_and, exists_eq_left', exists_eq_left, exists_and_left, exists_and_right, exists_eq, decide_eq_true_eq, reduceCtorEq, false_and, and_false, exists_false, false_or, or_false, S_len, S_eq, k0, k1, k2, k3, k4, k5, k6, k7, k8, k9, k10, k11, k12, k13, k14, k15, k16, k17, k18, k19, k20, k21, k22, k23, k24, k25, k26, k27, k28, k29, k30, k31, k32, k33, k34, k35, k36, k37, k38, k39, k40, k41, k42, k43, k44, k45, k46, k47, k48, k49, k50, k51, k52, k53, Nat.zero_add])

section
variable {P : Program} {w : World} {K : PySem.W.Frag} {mg : Str → Option Value} {base : Heap} {CB fI : Addr}
structure WR (dp : Addr) (H : Hp) (wp : Addr) : Prop where
  ex : ∃ sch ns ts, WorldR dp H wp sch ns ts ∧ WOk sch ns ts
theorem WR.kp {dp wp : Addr} {H H' : Hp} (h : WR dp H wp) (k : Kp dp H H') (d : Dr dp H) : WR dp H' wp := let ⟨s, n, t, a, b⟩ := h.ex; ⟨s, n, t, a.kp k d, b⟩
def spTm : Sp := fun vs H Q _ => ∃ (dp wp : Addr), vs = [.ref dp, .ref wp] ∧ Dr dp H ∧ WR dp H wp ∧ ∀ t v H', TB t → Kp dp H H' → Dr dp H' → Rep H' (tmD t) v → Q v H'
abbrev sc_l_term_N : List Str := ["_law_draws_here", "_law_world_here"]
abbrev sc_l_term_P : List Str := ["_law_draws_here", "_law_world_here"]
abbrev sc_l_term_s : Scope := defScope s_l_term
theorem sc_l_term : FnScope sc_l_term_N sc_l_term_P sc_l_term_s := ⟨rfl, rfl, rfl, by decide +kernel, rfl, by decide +kernel, by decide +kernel⟩

theorem ok_tm (T : Txt K mg) : Cal P w K mg base CX0 3 "_law_term" spTm := by
  have c_l_take : Cal P w K mg base CX0 1 "_law_take" spTakeN := ok_takeN T
  have c_l_value : Cal P w K mg base CX0 2 "_law_value" spVal := ok_value' T
  have c_l_pick : Cal P w K mg base CX0 2 "_law_pick" (spPick K) := ok_pick T
  refine cal0 T.f_l_term T.g_l_term sc_l_term (fun _ _ _ _ _ _ us hl => match us, hl with | [_, _], _ => rfl) (fun vs H Q E h => ?_) (fun cdv A outer s H vs Q E hr h => ?_)
  · obtain ⟨dp, wp, rfl, _⟩ := h; rfl
  · obtain ⟨dp, wp, rfl, hd, hw, q⟩ := h
    refine ⟨_, (pss_cons (ps_if (pt_cmpR op_eq (pe_c c_l_take hr (pa_cons (pv 0) (pa_cons pe_int pa_nil))) pe_int (nomark _)) (pss_one (ps_ret (pe_tup (pa_cons pe_str (pa_cons (pe_c c_l_value hr (pa_cons (pv 0) (pa_cons (pe_ix ix_list (pv 1) pe_int (fun _ _ => rfl)) pa_nil))) pa_nil))))) pss_nil)
      (pss_one (ps_ret (pe_tup (pa_cons pe_str (pa_cons (pe_c c_l_pick hr (pa_cons (pv 0) (pa_cons (pe_ix ix_list (pv 1) pe_int (fun _ _ => rfl)) pa_nil))) pa_nil)))))), ?_⟩
    wtm_at "rd"
    refine ⟨dp, 8, rfl, by decide, hd, fun r H1 hr1 k1 hd1 => ?_⟩
    obtain ⟨sch, ns, ts, hW, hO⟩ := (hw.kp k1 hd).ex
    obtain ⟨sp, np, vp, sxs, h1, h2, h3, h4, h5, h6, h7, h8⟩ := hW.ex
    wtm_at "rd"
    refine ite2 (fun _ => ?_) (fun _ => ?_)
    · refine ⟨_, SqL.of h1, _, atI_nat (j := 2) rfl, dp, vp, ts, rfl, h5, hO.tl, h7, hd1, fun t H2 ht k2 hd2 => ?_⟩
      wtm_at "rd"
      intro p hp
      obtain ⟨hb, hnv⟩ := hO.tv t ht
      refine q t _ _ hb ((k1.trans k2).new hp) (hd2.upd_ne' (hd2.ne hp)) ?_
      cases t with
      | var x => exact absurd rfl (hnv x)
      | int i => exact ⟨p, _, rfl, upd_same, _, _, rfl, rfl, _, _, rfl, rfl, rfl⟩
      | word u => exact ⟨p, _, rfl, upd_same, _, _, rfl, rfl, _, _, rfl, rfl, rfl⟩
    · refine ⟨_, SqL.of h1, _, atI_nat (j := 1) rfl, dp, np, _, rfl, h4, h6, ?_, hd1, fun v H2 hv k2 hd2 => ?_⟩
      · intro z
        have := congrArg List.length z
        rw [List.length_map, hO.nl] at this
        cases this
      · obtain ⟨u, hu, rfl⟩ := List.mem_map.mp hv
        have huo := hO.nw u hu
        wtm_at "rd"
        intro p hp
        exact q (.var u) _ _ ⟨huo.1, huo.2⟩ ((k1.trans k2).new hp) (hd2.upd_ne' (hd2.ne hp)) ⟨p, _, rfl, upd_same, _, _, rfl, rfl, _, _, rfl, rfl, rfl⟩
structure AOk (b : Nat) (a : Atom) : Prop where
  nm : isWord a.1 = true
  nl : a.1.length ≤ b
  tl : a.2.length ≤ 8
  tb : ∀ t ∈ a.2, TB t
def spAtom : Sp := fun vs H Q _ => ∃ (dp wp tp : Addr) (n : List Nat) (k : Nat), vs = [.ref dp, .ref wp, .ref tp] ∧ H tp = some (.tup [.str (S n), .int (k : Int)]) ∧ isWord n = true ∧ n.length ≤ 400 ∧ k ≤ 8 ∧ Dr dp H ∧ WR dp H wp ∧
  ∀ a v H', AOk 400 a → Kp dp H H' → Dr dp H' → Rep H' (atomD a) v → Q v H'
abbrev sc_l_atom_N : List Str := ["_law_draws_here", "_law_world_here", "_law_table", "_law_k"]
abbrev sc_l_atom_P : List Str := ["_law_draws_here", "_law_world_here", "_law_table"]
abbrev sc_l_atom_s : Scope := defScope s_l_atom
theorem sc_l_atom : FnScope sc_l_atom_N sc_l_atom_P sc_l_atom_s := ⟨rfl, rfl, rfl, by decide +kernel, rfl, by decide +kernel, by decide +kernel⟩

theorem ok_atom (T : Txt K mg) : Cal P w K mg base CX0 4 "_law_atom" spAtom := by
  have c_l_term : Cal P w K mg base CX0 3 "_law_term" spTm := ok_tm T
  refine cal0 T.f_l_atom T.g_l_atom sc_l_atom (fun _ _ _ _ _ _ us hl => match us, hl with | [_, _, _], _ => rfl) (fun vs H Q E h => ?_) (fun cdv A outer s H vs Q E hr h => ?_)
  · obtain ⟨dp, wp, tp, n, k, rfl, _⟩ := h; rfl
  · obtain ⟨dp, wp, tp, n, k, rfl, htp, hn, hnl, hk, hd, hw, q⟩ := h
    refine ⟨_, (pss_one (ps_ret (pe_tup (pa_cons (pe_ix ix_tup (pv 2) pe_int (fun _ _ => rfl)) (pa_cons (pe_callTy call_tuple_of (by rfl) T.b_tuple boot_tuple_ (pa_cons (pe_lc (own := [("_law_k", 3)]) (g := gName 3) (tt := tYes) rfl sc_l_atom.nd (pi_range1 (by rfl) T.b_range (pa_cons (pe_ix ix_tup (pv 2) pe_int (fun _ _ => rfl)) pa_nil)) (blkOk_by (own := [("_law_k", 3)]) (N := sc_l_atom_N) (sc := sc_l_atom_s) (by decide +kernel)) (fun _ _ _ _ _ => pg_name (i := 3) sc_l_atom.nd rfl (Or.inl rfl)) (fun _ _ _ _ _ => pts_nil) (fun _ _ _ _ _ => (pe_c c_l_term hr (pa_cons (pv 0) (pa_cons (pv 1) pa_nil))))) pa_nil)) pa_nil))))), ?_⟩
    wtm_at "rd"
    refine ⟨_, SqT.of htp, _, rfl, _, SqT.of htp, _, rfl, _, rfl, by omega, by omega, ?_⟩
    rw [Int.toNat_natCast]
    refine lcb (walk_range (lo := 0) (n := k)) (fun D i H' => Kp dp H H' ∧ Dr dp H' ∧ ∃ (tms : List Tm) (xs : List V), tms.length = i ∧ (∀ t ∈ tms, TB t) ∧ H' D = some (.lst xs) ∧ Reps H' (tms.map tmD) xs) (fun D hD => ⟨(Kp.refl dp H).new hD, hd.upd_ne' (hd.ne hD), [], [], rfl, by simp, upd_same, rfl⟩) (fun _ _ _ _ _ => trivial) (fun D i x H' H5 hD hi e y => ?_) (fun D H' hD e => ?_)
    · obtain ⟨k5, hd5, tms, xs, htl, htb, hDx, hrp⟩ := e
      obtain ⟨rfl, rfl⟩ := y
      have hDd := hd.ne hD
      have hxl := reps_len hrp
      rw [List.length_map] at hxl
      wtm_at "rd"
      refine ⟨dp, wp, rfl, hd5, hw.kp k5 hd, fun t v H6 ht k6 hd6 hv => ?_⟩
      have hD6 := k6 _ _ hDd hDx
      have kt := (KT.refl H6).upd (x := D) (u := .lst (xs ++ [v])) hD6 fun _ z => by cases z
      refine ⟨xs, hD6, lt_line (by omega), (k5.trans k6).mutn hD, hd6.upd_ne' hDd, tms ++ [t], by simp <;> omega, ?_, xs ++ [v], upd_same, ?_⟩
      · intro s hs
        rcases List.mem_append.mp hs with hs | hs
        · exact htb s hs
        · rw [List.mem_singleton.mp hs]; exact ht
      · rw [List.map_append]
        exact reps_app (hrp.kt ((KT.dr k6 hd5).trans kt) _ _) ⟨v, [], rfl, hv.kt kt _ _, rfl⟩
    · obtain ⟨k5, hd5, tms, xs, htl, htb, hDx, hrp⟩ := e
      wtm_at "rd"
      refine ⟨_, .inl ⟨SqL.of hDx, fun l hl p hp => ?_⟩⟩
      have s2 := (same_new hl (.tup xs)).trans (same_new hp (.tup [.str (S n), .ref l]))
      exact q (n, tms) _ _ ⟨hn, hnl, by simp; omega, htb⟩ (k5.trans (Kp.same s2)) ((hd5.upd_ne' (hd5.ne hl)).upd_ne' ((hd5.upd_ne' (hd5.ne hl)).ne hp)) ⟨p, _, rfl, upd_same, _, _, rfl, rfl, _, _, rfl, ⟨l, xs, rfl, (same_new hp _) _ _ upd_same, hrp.kt (KT.same s2) _ _⟩, rfl⟩
theorem pr_erase {α β : Type} {F : α → β → Prop} : ∀ {xs : List α} {us : List β} (i : Nat), Paired F xs us → Paired F (xs.eraseIdx i) (us.eraseIdx i)
  | _, _, _, .nil => .nil
  | _, _, 0, .cons _ t => t
  | _, _, i + 1, .cons r t => .cons r (pr_erase i t)
theorem seq_nat {r n : Nat} (h : r < n) : seqIndex? (r : Int) n = some r := by
  rw [seqIndex_of (by omega) (by omega), Int.toNat_natCast]
structure JOk (b m : Nat) (J : Body) : Prop where
  ne : J ≠ []
  len : J.length ≤ m
  at_ : ∀ a ∈ J, AOk b a
def spSimple : Sp := fun vs H Q _ => ∃ (dp wp : Addr), vs = [.ref dp, .ref wp] ∧ Dr dp H ∧ WR dp H wp ∧ ∀ J v H', JOk 400 4 J → Kp dp H H' → Dr dp H' → Rep H' (joinD J) v → Q v H'
abbrev sc_l_simple_N : List Str := ["_law_draws_here", "_law_world_here", "_law_tables", "_law_body", "_law_k"]
abbrev sc_l_simple_P : List Str := ["_law_draws_here", "_law_world_here"]
abbrev sc_l_simple_s : Scope := defScope s_l_simple
theorem sc_l_simple : FnScope sc_l_simple_N sc_l_simple_P sc_l_simple_s := ⟨rfl, rfl, rfl, by decide +kernel, rfl, by decide +kernel, by decide +kernel⟩

theorem ok_simple (T : Txt K mg) : Cal P w K mg base CX0 5 "_law_simple" spSimple := by
  have c_l_take : Cal P w K mg base CX0 1 "_law_take" spTakeN := ok_takeN T
  have c_l_atom : Cal P w K mg base CX0 4 "_law_atom" spAtom := ok_atom T
  refine cal0 T.f_l_simple T.g_l_simple sc_l_simple (fun _ _ _ _ _ _ us hl => match us, hl with | [_, _], _ => rfl) (fun vs H Q E h => ?_) (fun cdv A outer s H vs Q E hr h => ?_)
  · obtain ⟨dp, wp, rfl, _⟩ := h; rfl
  · obtain ⟨dp, wp, rfl, hd, hw, q⟩ := h
    obtain ⟨sch, ns, ts, hW, hO⟩ := hw.ex
    obtain ⟨sp, np, vp, sxs, h1, h2, h3, h4, h5, h6, h7, h8⟩ := hW.ex
    refine ⟨_, (pss_cons (ps_set (i := 2) sc_l_simple.nd rfl (by first | exact Or.inl rfl | exact Or.inr rfl) (pe_callTy call_list_of (by rfl) T.b_list boot_list_ (pa_cons (pe_ix ix_list (pv 1) pe_int (fun _ _ => rfl)) pa_nil)))
      (pss_cons (ps_set (i := 3) sc_l_simple.nd rfl (by first | exact Or.inl rfl | exact Or.inr rfl) (pe_lst pa_nil))
      (pss_cons (ps_for PassesOwn.never rfl (pi_range1 (by rfl) T.b_range (pa_cons (pe_ix ix_list (pe_lst (pa_cons pe_int (pa_cons pe_int (pa_cons pe_int (pa_cons pe_int (pa_cons pe_int (pa_cons pe_int pa_nil))))))) (pe_c c_l_take hr (pa_cons (pv 0) (pa_cons pe_int pa_nil))) (fun _ _ => rfl)) pa_nil)) (pg_name (i := 4) sc_l_simple.nd rfl (by first | exact Or.inl rfl | exact Or.inr rfl)) (pss_one (ps_if (pt_cmpR op_gt (pe_callB call_len_seq (by rfl) T.b_len boot_len (pa_cons (pv 2) pa_nil)) pe_int (nomark _)) (pss_one (ps_expr (pe_bm PySem.F.plainAttrs_list PySem.F.slot_list_append PySem.F.type_list_append mt_append (pv 3) (pa_cons (pe_c c_l_atom hr (pa_cons (pv 0) (pa_cons (pv 1) (pa_cons (pe_bm PySem.F.plainAttrs_list PySem.F.slot_list_pop PySem.F.type_list_pop mt_popAt (pv 2) (pa_cons (pe_c c_l_take hr (pa_cons (pv 0) (pa_cons (pe_callB call_len_seq (by rfl) T.b_len boot_len (pa_cons (pv 2) pa_nil)) pa_nil))) pa_nil)) pa_nil)))) pa_nil)))) pss_nil)))
      (pss_one (ps_ret (pe_tup (pa_cons (pe_tup pa_nil) (pa_cons (pe_callTy call_tuple_of (by rfl) T.b_tuple boot_tuple_ (pa_cons (pv 3) pa_nil)) pa_nil)))))))), ?_⟩
    wtm_at "rd"
    refine ⟨_, SqL.of h1, _, atI_nat (j := 0) rfl, sp, rfl, _, .inr (SqT.of h2), fun tb htb => ?_⟩
    intro bp hbp
    refine ⟨le_line (by decide), fun lp hlp => ?_⟩
    have htd := hd.ne htb
    have hd1 := hd.upd_ne' (o := .lst sxs) htd
    have hbd := hd1.ne hbp
    have hd2 := hd1.upd_ne' (o := .lst []) hbd
    have hld := hd2.ne hlp
    have s03 : Same H (upd (upd (upd H tb (.lst sxs)) bp (.lst [])) lp (.lst ([3, 2, 3, 4, 1, 2].map fun (k : Nat) => V.int (k : Int)))) := ((same_new htb _).trans (same_new hbp _)).trans (same_new hlp _)
    have htb3 : upd (upd (upd H tb (.lst sxs)) bp (.lst [])) lp (.lst ([3, 2, 3, 4, 1, 2].map fun (k : Nat) => V.int (k : Int))) tb = some (.lst sxs) := (same_new hlp _) _ _ ((same_new hbp _) _ _ upd_same)
    have hbp3 : upd (upd (upd H tb (.lst sxs)) bp (.lst [])) lp (.lst ([3, 2, 3, 4, 1, 2].map fun (k : Nat) => V.int (k : Int))) bp = some (.lst []) := (same_new hlp _) _ _ upd_same
    refine ⟨dp, 6, rfl, by decide, hd2.upd_ne' hld, fun r H4 hr4 k4 hd4 => ?_⟩
    wtm_at "rd"
    obtain ⟨j, hj, hat⟩ := lit_at (ks := [3, 2, 3, 4, 1, 2]) hr4
    have hj' : 1 ≤ j ∧ j ≤ 4 := by simp at hj; omega
    have hbH : H bp = none := by
      cases e : H bp with
      | none => rfl
      | some o => rw [(same_new htb _) _ _ e] at hbp; cases hbp
    refine ⟨_, SqL.of (k4 _ _ hld upd_same), _, atI_nat hat, _, rfl, by omega, by omega, ?_⟩
    rw [Int.toNat_natCast]
    have htbb : tb ≠ bp := ne_of_none upd_same hbp
    have k04 : Kp dp H H4 := (Kp.same s03).trans k4
    have htb4 := k4 _ _ htd htb3
    have hbp4 := k4 _ _ hbd hbp3
    obtain ⟨Pv, hPv⟩ := opq3 fun i σ H' => ∃ (txs : List V) (sc : List (List Nat × Nat)) (J : Body) (bxs : List V) (u4 : Option V), Kp dp H H' ∧ Dr dp H' ∧ H' tb = some (.lst txs) ∧ SchR H' txs sc ∧ ((∀ n ∈ sc, n ∈ sch) ∧ sc.length ≤ 4) ∧ H' bp = some (.lst bxs) ∧ Reps H' (J.map atomD) bxs ∧ (∀ a ∈ J, AOk 400 a) ∧ J.length ≤ i ∧ (i = 0 → sc = sch) ∧ (0 < i → J ≠ []) ∧
      σ = [some (.ref dp), some (.ref wp), some (.ref tb), some (.ref bp), u4]
    refine forb (walk_range (lo := 0) (n := j)) Pv ((hPv _ _ _).mpr ⟨sxs, sch, [], [], none, k04, hd4, htb4, h3.kt (KT.dr k04 hd), ⟨fun _ h => h, hO.l1⟩, hbp4, rfl, by simp, by simp, fun _ => rfl, fun h => by omega, rfl⟩) (fun _ _ _ _ => trivial) (fun i x σ H' H5 hi pv y => ?_) (fun σ H' pv => ?_)
    · obtain ⟨txs, sc, J, bxs, u4, k5, hd5, ht5, hts, hsc, hb5, hbr, hJo, hJl, hz, hnz, rfl⟩ := (hPv _ _ _).mp pv
      obtain ⟨rfl, rfl⟩ := y
      have htl := hts.length
      have hbl := reps_len hbr
      rw [List.length_map] at hbl
      wtm_at "rd"
      refine ⟨_, .inl (SqL.of ht5), ite2 (fun h => ?_) (fun h => ?_)⟩
      · refine ⟨tyL hb5, tyL ht5, _, .inl (SqL.of ht5), dp, txs.length, rfl, by omega, hd5, fun r H6 hr6 k6 hd6 => ?_⟩
        wtm_at "rd"
        have ht6 := k6 _ _ htd ht5
        obtain ⟨tv, htv⟩ : ∃ tv, txs[r]? = some tv := ⟨_, List.getElem?_eq_getElem hr6⟩
        obtain ⟨n, hn⟩ : ∃ n, sc[r]? = some n := ⟨_, List.getElem?_eq_getElem (by omega)⟩
        obtain ⟨tv', htv', ta, e1, e2⟩ := pr_get hts hn
        rw [htv] at htv'
        cases htv'
        subst e1
        have hsc4 := hsc.2
        refine ⟨_, ht6, by omega, by omega, r, seq_nat hr6, _, htv, ?_⟩
        have hk7 : Kp dp H (upd H6 tb (.lst (txs.eraseIdx r))) := (k5.trans k6).mutn htb
        have hd7 := hd6.upd_ne' (o := .lst (txs.eraseIdx r)) htd
        have kt7 : KT H5 (upd H6 tb (.lst (txs.eraseIdx r))) := (KT.dr k6 hd5).upd ht6 fun _ z => by cases z
        have hb7 : upd H6 tb (.lst (txs.eraseIdx r)) bp = some (.lst bxs) := by rw [upd_ne htbb.symm]; exact k6 _ _ hbd hb5
        have ht7 : upd H6 tb (.lst (txs.eraseIdx r)) tb = some (.lst (txs.eraseIdx r)) := upd_same
        generalize upd H6 tb (.lst (txs.eraseIdx r)) = H7 at hk7 hd7 kt7 hb7 ht7 ⊢
        have hsn := hO.sc n (hsc.1 n (List.mem_of_getElem? hn))
        refine ⟨dp, wp, ta, n.1, n.2, rfl, kt7 _ _ e2, hsn.1, hsn.2.1, hsn.2.2, hd7, hw.kp hk7 hd, fun a v H8 ha k8 hd8 hv => ?_⟩
        have hb8 := k8 _ _ hbd hb7
        have kt8 := KT.dr k8 hd7
        have ktu := (KT.refl H8).upd (x := bp) (u := .lst (bxs ++ [v])) hb8 fun _ z => by cases z
        refine ⟨bxs, hb8, lt_line (by omega), (hPv _ _ _).mpr ⟨txs.eraseIdx r, sc.eraseIdx r, J ++ [a], bxs ++ [v], _, (hk7.trans k8).mutn hbH, hd8.upd_ne' hbd, ?_, ?_, ?_, upd_same, ?_, ?_, by simp <;> omega, fun z => by omega, fun _ => by simp, rfl⟩⟩
        · rw [upd_ne htbb]; exact k8 _ _ htd ht7
        · exact SchR.kt (kt7.trans (kt8.trans ktu)) (pr_erase r hts)
        · exact ⟨fun m hm => hsc.1 m (List.mem_of_mem_eraseIdx hm), Nat.le_trans (List.length_eraseIdx_le ..) hsc.2⟩
        · rw [List.map_append]
          exact reps_app (hbr.kt (kt7.trans (kt8.trans ktu)) _ _) ⟨v, [], rfl, hv.kt ktu _ _, rfl⟩
        · intro b hb
          rcases List.mem_append.mp hb with hb | hb
          · exact hJo b hb
          · rw [List.mem_singleton.mp hb]; exact ha
      · have hi0 : 0 < i := by
          rcases Nat.eq_zero_or_pos i with z | z
          · have := hz z
            have := hO.l0
            subst sc
            omega
          · exact z
        exact (hPv _ _ _).mpr ⟨txs, sc, J, bxs, _, k5, hd5, ht5, hts, hsc, hb5, hbr, hJo, by omega, fun z => by omega, fun _ => hnz hi0, rfl⟩
    · obtain ⟨txs, sc, J, bxs, u4, k5, hd5, ht5, hts, hsc, hb5, hbr, hJo, hJl, hz, hnz, rfl⟩ := (hPv _ _ _).mp pv
      wtm_at "rd"
      intro p hp
      refine ⟨_, .inl ⟨SqL.of ((same_new hp _) _ _ hb5), fun l hl p1 hp1 => ?_⟩⟩
      have sa := same_new hp (.tup [])
      have sb := same_new hl (.tup bxs)
      have sc' := same_new hp1 (.tup [.ref p, .ref l])
      have hda := hd5.upd_ne' (o := .tup []) (hd5.ne hp)
      have hdb := hda.upd_ne' (o := .tup bxs) (hda.ne hl)
      exact q J _ _ ⟨hnz (by omega), by omega, hJo⟩ (k5.trans (Kp.same ((sa.trans sb).trans sc'))) (hdb.upd_ne' (hdb.ne hp1)) ⟨p1, _, rfl, upd_same, _, _, rfl, ⟨p, [], rfl, sc' _ _ (sb _ _ upd_same), rfl⟩, _, _, rfl, ⟨l, bxs, rfl, sc' _ _ upd_same, hbr.kt (KT.same ((sa.trans sb).trans sc')) _ _⟩, rfl⟩
/-! ### _law_great -/
def spGreat : Sp := fun vs H Q _ => ∃ (dp : Addr), vs = [.ref dp] ∧ Dr dp H ∧ ∀ (i : Int) H', i.natAbs < 10 ^ 57 → Kp dp H H' → Dr dp H' → Q (.int i) H'
abbrev sc_l_great_N : List Str := ["_law_draws_here", "_law_number", "_law_k"]
abbrev sc_l_great_P : List Str := ["_law_draws_here"]
abbrev sc_l_great_s : Scope := defScope s_l_great
theorem sc_l_great : FnScope sc_l_great_N sc_l_great_P sc_l_great_s := ⟨rfl, rfl, rfl, by decide +kernel, rfl, by decide +kernel, by decide +kernel⟩

theorem ok_great (T : Txt K mg) : Cal P w K mg base CX0 2 "_law_great" spGreat := by
  have c_l_take : Cal P w K mg base CX0 1 "_law_take" spTakeN := ok_takeN T
  refine cal0 T.f_l_great T.g_l_great sc_l_great (fun _ _ _ _ _ _ us hl => match us, hl with | [_], _ => rfl) (fun vs H Q E h => ?_) (fun cdv A outer s H vs Q E hr h => ?_)
  · obtain ⟨dp, rfl, _⟩ := h; rfl
  · obtain ⟨dp, rfl, hd, q⟩ := h
    refine ⟨_, (pss_cons (ps_set (i := 1) sc_l_great.nd rfl (by first | exact Or.inl rfl | exact Or.inr rfl) pe_int)
      (pss_cons (ps_for PassesOwn.never rfl (pi_range1 (by rfl) T.b_range (pa_cons (pe_ix ix_list (pe_lst (pa_cons pe_int (pa_cons pe_int (pa_cons pe_int (pa_cons pe_int pa_nil))))) (pe_c c_l_take hr (pa_cons (pv 0) (pa_cons pe_int pa_nil))) (fun _ _ => rfl)) pa_nil)) (pg_name (i := 2) sc_l_great.nd rfl (by first | exact Or.inl rfl | exact Or.inr rfl)) (pss_one (ps_set (i := 1) sc_l_great.nd rfl (by first | exact Or.inl rfl | exact Or.inr rfl) (pe_op op_add (pe_op op_mul (pv 1) pe_int) (pe_c c_l_take hr (pa_cons (pv 0) (pa_cons pe_int pa_nil)))))))
      (pss_cons (ps_if (pt_cmpR op_eq (pe_c c_l_take hr (pa_cons (pv 0) (pa_cons pe_int pa_nil))) pe_int (nomark _)) (pss_one (ps_ret (pe_op op_sub pe_int (pv 1)))) pss_nil)
      (pss_one (ps_ret (pv 1)))))), ?_⟩
    wtm_at "rd"
    intro lp hlp
    have hld := hd.ne hlp
    refine ⟨dp, 4, rfl, by decide, hd.upd_ne' hld, fun r H1 hr1 k1 hd1 => ?_⟩
    wtm_at "rd"
    obtain ⟨j, hj, hat⟩ := lit_at (ks := [1, 2, 6, 19]) hr1
    have hj' : j ≤ 19 := by simp at hj; omega
    refine ⟨_, SqL.of (k1 _ _ hld upd_same), _, atI_nat hat, _, rfl, by omega, by omega, ?_⟩
    rw [Int.toNat_natCast]
    have k01 := ((Kp.refl dp H).new (o := .lst ([1, 2, 6, 19].map fun (k : Nat) => V.int (k : Int))) hlp).trans k1
    obtain ⟨Pv, hPv⟩ := opq3 fun i σ H' => ∃ (n : Nat) (u2 : Option V), Kp dp H H' ∧ Dr dp H' ∧ n < 1000 ^ i ∧ σ = [some (.ref dp), some (.int (n : Int)), u2]
    refine forb (walk_range (lo := 0) (n := j)) Pv ((hPv _ _ _).mpr ⟨0, none, k01, hd1, by decide, rfl⟩) (fun _ _ _ _ => trivial) (fun i x σ H' H5 hi pv y => ?_) (fun σ H' pv => ?_)
    · obtain ⟨n, u2, k5, hd5, hn, rfl⟩ := (hPv _ _ _).mp pv
      obtain ⟨rfl, rfl⟩ := y
      wtm_at "rd"
      refine ⟨.inr ⟨by decide, by decide⟩, dp, 1000, rfl, by decide, hd5, fun r H6 hr6 k6 hd6 => ?_⟩
      wtm_at "rd"
      refine (hPv _ _ _).mpr ⟨n * 1000 + r, _, k5.trans k6, hd6, ?_, rfl⟩
      rw [Nat.pow_succ]
      omega
    · obtain ⟨n, u2, k5, hd5, hn, rfl⟩ := (hPv _ _ _).mp pv
      have hn' : n < 10 ^ 57 := Nat.lt_of_lt_of_le hn (Nat.le_trans (Nat.pow_le_pow_right (by decide) hj') (by decide))
      wtm_at "rd"
      refine ⟨dp, 3, rfl, by decide, hd5, fun r H6 hr6 k6 hd6 => ?_⟩
      wtm_at "rd"
      refine ite2 (fun _ => ?_) (fun _ => ?_)
      · exact q _ _ (by omega) (k5.trans k6) hd6
      · exact q _ _ (by omega) (k5.trans k6) hd6
end
end K26

end
section
set_option linter.all false
set_option maxRecDepth 100000
set_option maxHeartbeats 4000000
namespace K26
open PySem PySem.Spec PyProof.Rows L2
open SX (S S_len S_cat S_inj)
open PySem.NumText
local macro_rules | `(tactic| wtm_at "rd") => `(tactic| try simp only [tSeq, tAsg, tVar, tC, gName, tRet, tRetN, tIfS, tNext, tDrop, tOp, tUn, rI0, rI, rU, tTest, tB, tAnd, tOr, tNot, tAndV, tOrV, tNotV, tIf, tCB, tCons, tNil, tTup, tLst, tCall, tSl, tPart, tNoPart, tBM, tBM0, gTup, gCons, gNil, gSub, tAug, ipI, rEq, rNe, sc_ii, sc_ss, sc_bb, sc_nn, sc_is, sc_si, sc_ns, sc_sn, sc_ni, sc_in, z0, z1, z2, z3, z4, z5, if_true, if_false, Bool.not_eq_true', decide_eq_false_iff_not, rIxS, rSlS, rSlL, tAugS, rGetL, cast1, rIxL, rIxT, rSetL, rAppend, rPop, rPopAt, rReverse, rCat, tYes, iRng1, iRng2, tMkBad, rIn, tFld, sFld, sFldAug, rAdd, tMeth, tMake, tCallS, tBadF, tM1, iList, iTup, iEnum, iEnumT, iStr, tBreak, C8.tCut, tFor_eq, tLc_eq, wipe_1,
  L2.start, List.map_cons, List.map_nil, List.cons_append, List.nil_append, List.append_nil, List.length_cons, List.length_nil, Nat.reduceAdd, Nat.reduceSub, List.replicate_succ, List.replicate_zero,
  List.getElem?_cons_succ, List.getElem?_cons_zero, List.set_cons_succ, List.set_cons_zero, Option.some.injEq, V.int.injEq, V.str.injEq, V.ref.injEq, V.bl.injEq, List.cons.injEq, and_assoc, and_true, true_and, exists_eq_left', exists_eq_left, exists_and_left, exists_and_right, exists_eq, decide_eq_true_eq, reduceCtorEq, false_and, and_false, exists_false, false_or, or_false, S_len, S_eq, k0, k1, k2, k3, k4, k5, k6, k7, k8, k9, k10, k11, k12, k13, k14, k15, k16, k17, k18, k19, k20, k21, k22, k23, k24, k25, k26, k27, k28, k29, k30, k31, k32, k33, k34, k35, k36, k37, k38, k39, k40, k41, k42, k43, k44, k45, k46, k47, k48, k49, k50, k51, k52, k53, Nat.zero_add])

section
theorem sch_np {H : Hp} {sxs : List V} {sch : List (List Nat × Nat)} (h : SchR H sxs sch) : ∃ bs : List NP, bs.map (fun b => b.1) = sxs ∧ bs.length = sch.length ∧ (∀ b ∈ bs, ∃ t, b.1 = .ref t ∧ H t = some (.tup [.str (S b.2.1), .int b.2.2])) ∧ ∀ b ∈ bs, 0 ≤ b.2.2 ∧ (b.2.1, b.2.2.toNat) ∈ sch := by
  induction h with
  | nil => exact ⟨[], rfl, rfl, by simp, by simp⟩
  | @cons v n xs ns a b ih =>
    obtain ⟨bs, h1, h2, h3, h4⟩ := ih
    obtain ⟨t, e, ht⟩ := a
    refine ⟨(v, n.1, (n.2 : Int)) :: bs, by simp [h1], by simp [h2], fun c hc => ?_, fun c hc => ?_⟩
    · rcases List.mem_cons.mp hc with rfl | hc
      · exact ⟨t, e, ht⟩
      · exact h3 c hc
    · rcases List.mem_cons.mp hc with rfl | hc
      · exact ⟨Int.natCast_nonneg _, by simp⟩
      · obtain ⟨q1, q2⟩ := h4 c hc
        exact ⟨q1, List.mem_cons_of_mem _ q2⟩
theorem np_sch {H : Hp} : ∀ {cs : List NP}, (∀ b ∈ cs, ∃ t, b.1 = .ref t ∧ H t = some (.tup [.str (S b.2.1), .int b.2.2])) → (∀ b ∈ cs, 0 ≤ b.2.2) → SchR H (cs.map fun b => b.1) (cs.map fun b => (b.2.1, b.2.2.toNat))
  | [], _, _ => .nil
  | b :: r, h, h0 => by
    obtain ⟨t, e, ht⟩ := h b List.mem_cons_self
    refine .cons ⟨t, e, ?_⟩ (np_sch (fun c hc => h c (List.mem_cons_of_mem _ hc)) fun c hc => h0 c (List.mem_cons_of_mem _ hc))
    rw [ht]
    show some (HO.tup [.str (S b.2.1), .int b.2.2]) = some (HO.tup [.str (S b.2.1), .int ((b.2.2.toNat : Nat) : Int)])
    rw [Int.toNat_of_nonneg (h0 b List.mem_cons_self)]
/-- the three lists of a text world -/
structure TD (sc np vp : Addr) (H' : Hp) (sxs : List V) (sch : List (List Nat × Nat)) (ns : List (List Nat)) (ts : List Tm) : Prop where
  s : H' sc = some (.lst sxs)
  r : SchR H' sxs sch
  n : H' np = some (.lst (sL ns))
  v : H' vp = some (.lst (vL ts))
  ok : WOk sch ns ts
structure TI (dp : Addr) (H : Hp) (sc np vp : Addr) (H' : Hp) : Prop where
  k : Kp dp H H'
  d : Dr dp H'
  ex : ∃ sxs sch ns ts, TD sc np vp H' sxs sch ns ts
structure Ap (dp : Addr) (H : Hp) (sc np vp : Addr) : Prop where
  s0 : H sc = none
  n0 : H np = none
  v0 : H vp = none
  sd : sc ≠ dp
  nd : np ≠ dp
  vd : vp ≠ dp
  sn : sc ≠ np
  sv : sc ≠ vp
  nv : np ≠ vp
theorem TD.kp {dp sc np vp : Addr} {H H1 H2 : Hp} {sxs : List V} {sch : List (List Nat × Nat)} {ns : List (List Nat)} {ts : List Tm} (A : Ap dp H sc np vp) (h : TD sc np vp H1 sxs sch ns ts) (k : Kp dp H1 H2) (d : Dr dp H1) : TD sc np vp H2 sxs sch ns ts :=
  ⟨k _ _ A.sd h.s, h.r.kt (KT.dr k d), k _ _ A.nd h.n, k _ _ A.vd h.v, h.ok⟩
theorem TI.kp {dp sc np vp : Addr} {H H1 H2 : Hp} (A : Ap dp H sc np vp) (h : TI dp H sc np vp H1) (k : Kp dp H1 H2) (d : Dr dp H2) : TI dp H sc np vp H2 :=
  let ⟨a, b, c, e, td⟩ := h.ex; ⟨h.k.trans k, d, a, b, c, e, td.kp A k h.d⟩
theorem litS_at {us : List (List Nat)} {r : Nat} (h : r < us.length) : ∃ u, u ∈ us ∧ (sL us)[r]? = some (.str (S u)) := ⟨us[r], List.getElem_mem h, by rw [List.getElem?_map, List.getElem?_eq_getElem h]; rfl⟩
theorem ixN_nat {n i : Nat} (h : i < n) : ixN n (i : Int) = some i := by
  unfold ixN
  rw [if_pos (by omega), if_pos (by omega), Int.toNat_natCast]
theorem TD.head {sc np vp : Addr} {H1 : Hp} {sxs : List V} {sch : List (List Nat × Nat)} {ns : List (List Nat)} {ts : List Tm} (h : TD sc np vp H1 sxs sch ns ts) : ∃ (p : Addr) (n : List Nat × Nat), sxs[0]? = some (.ref p) ∧ H1 p = some (.tup [.str (S n.1), .int ((n.2 : Nat) : Int)]) ∧ (isWord n.1 = true ∧ n.1.length ≤ 400 ∧ n.2 ≤ 8) ∧ 0 < sxs.length := by
  have hr := h.r
  have h0 := h.ok.l0
  cases hr with
  | nil => simp at h0
  | cons a b =>
    obtain ⟨p, rfl, hp⟩ := a
    exact ⟨p, _, rfl, hp, h.ok.sc _ List.mem_cons_self, by simp⟩
theorem TD.setS {dp sc np vp p : Addr} {H H1 : Hp} {sxs : List V} {sch : List (List Nat × Nat)} {ns : List (List Nat)} {ts : List Tm} {n : List Nat} {k : Nat} (A : Ap dp H sc np vp) (h : TD sc np vp H1 sxs sch ns ts) (hp : H1 p = some (.tup [.str (S n), .int (k : Int)])) (hn : isWord n = true) (hl : n.length ≤ 400) (hk : k ≤ 8) :
    TD sc np vp (upd H1 sc (.lst (sxs.set 0 (.ref p)))) (sxs.set 0 (.ref p)) (sch.set 0 (n, k)) ns ts := by
  have kt := (KT.refl H1).upd (x := sc) (u := .lst (sxs.set 0 (.ref p))) h.s fun _ z => by cases z
  refine ⟨upd_same, ?_, by rw [upd_ne A.sn.symm]; exact h.n, by rw [upd_ne A.sv.symm]; exact h.v, ⟨by rw [List.length_set]; exact h.ok.l0, by rw [List.length_set]; exact h.ok.l1, fun m hm => ?_, h.ok.nl, h.ok.nw, h.ok.tl, h.ok.tv⟩⟩
  · have hr := h.r.kt kt
    cases hr with
    | nil => exact .nil
    | cons a b => exact .cons ⟨p, rfl, kt _ _ hp⟩ b
  · rcases List.mem_or_eq_of_mem_set hm with hm | hm
    · exact h.ok.sc m hm
    · rw [hm]; exact ⟨hn, hl, hk⟩
theorem TD.setN {dp sc np vp : Addr} {H H1 : Hp} {sxs : List V} {sch : List (List Nat × Nat)} {ns : List (List Nat)} {ts : List Tm} {u : List Nat} {i : Nat} (A : Ap dp H sc np vp) (h : TD sc np vp H1 sxs sch ns ts) (hn : isWord u = true) (hl : u.length ≤ 400) :
    TD sc np vp (upd H1 np (.lst ((sL ns).set i (.str (S u))))) sxs sch (ns.set i u) ts := by
  have kt := (KT.refl H1).upd (x := np) (u := .lst ((sL ns).set i (.str (S u)))) h.n fun _ z => by cases z
  refine ⟨by rw [upd_ne A.sn]; exact h.s, h.r.kt kt, by rw [upd_same]; simp [List.map_set], by rw [upd_ne A.nv.symm]; exact h.v, ⟨h.ok.l0, h.ok.l1, h.ok.sc, by rw [List.length_set]; exact h.ok.nl, fun m hm => ?_, h.ok.tl, h.ok.tv⟩⟩
  rcases List.mem_or_eq_of_mem_set hm with hm | hm
  · exact h.ok.nw m hm
  · rw [hm]; exact ⟨hn, hl⟩
theorem TD.setV {dp sc np vp : Addr} {H H1 : Hp} {sxs : List V} {sch : List (List Nat × Nat)} {ns : List (List Nat)} {ts : List Tm} {t : Tm} {i : Nat} (A : Ap dp H sc np vp) (h : TD sc np vp H1 sxs sch ns ts) (ht : VB t) :
    TD sc np vp (upd H1 vp (.lst ((vL ts).set i (vV t)))) sxs sch ns (ts.set i t) := by
  have kt := (KT.refl H1).upd (x := vp) (u := .lst ((vL ts).set i (vV t))) h.v fun _ z => by cases z
  refine ⟨by rw [upd_ne A.sv]; exact h.s, h.r.kt kt, by rw [upd_ne A.nv]; exact h.n, by rw [upd_same]; simp [List.map_set], ⟨h.ok.l0, h.ok.l1, h.ok.sc, h.ok.nl, h.ok.nw, by rw [List.length_set]; exact h.ok.tl, fun m hm => ?_⟩⟩
  rcases List.mem_or_eq_of_mem_set hm with hm | hm
  · exact h.ok.tv m hm
  · rw [hm]; exact ht
variable {P : Program} {w : World} {K : PySem.W.Frag} {mg : Str → Option Value} {base : Heap} {CB fI : Addr}
def spTW : Sp := fun vs H Q _ => ∃ (dp : Addr), vs = [.ref dp] ∧ Dr dp H ∧ ∀ wp H', Kp dp H H' → Dr dp H' → WR dp H' wp → Q (.ref wp) H'
abbrev sc_l_text_world_N : List Str := ["_law_draws_here", "_law_world_here", "_law_schema", "_law_names", "_law_values_here", "_law_k", "_law_name"]
abbrev sc_l_text_world_P : List Str := ["_law_draws_here"]
abbrev sc_l_text_world_s : Scope := defScope s_l_text_world
theorem sc_l_text_world : FnScope sc_l_text_world_N sc_l_text_world_P sc_l_text_world_s := ⟨rfl, rfl, rfl, by decide +kernel, rfl, by decide +kernel, by decide +kernel⟩

theorem ok_text_world (T : Txt K mg) : Cal P w K mg base CX0 4 "_law_text_world" spTW := by
  have c_l_take : Cal P w K mg base CX0 1 "_law_take" spTakeN := ok_takeN T
  have c_l_world : Cal P w K mg base CX0 3 "_law_world" spWorld := ok_world T
  have c_l_great : Cal P w K mg base CX0 2 "_law_great" spGreat := ok_great T
  refine cal0 T.f_l_text_world T.g_l_text_world sc_l_text_world (fun _ _ _ _ _ _ us hl => match us, hl with | [_], _ => rfl) (fun vs H Q E h => ?_) (fun cdv A outer s H vs Q E hr h => ?_)
  · obtain ⟨dp, rfl, _⟩ := h; rfl
  · obtain ⟨dp, rfl, hd, q⟩ := h
    refine ⟨_, (pss_cons (ps_set (i := 1) sc_l_text_world.nd rfl (by first | exact Or.inl rfl | exact Or.inr rfl) (pe_c c_l_world hr (pa_cons (pv 0) pa_nil)))
      (pss_cons (ps_set (i := 2) sc_l_text_world.nd rfl (by first | exact Or.inl rfl | exact Or.inr rfl) (pe_callTy call_list_of (by rfl) T.b_list boot_list_ (pa_cons (pe_ix ix_list (pv 1) pe_int (fun _ _ => rfl)) pa_nil)))
      (pss_cons (ps_set (i := 3) sc_l_text_world.nd rfl (by first | exact Or.inl rfl | exact Or.inr rfl) (pe_callTy call_list_of (by rfl) T.b_list boot_list_ (pa_cons (pe_ix ix_list (pv 1) pe_int (fun _ _ => rfl)) pa_nil)))
      (pss_cons (ps_set (i := 4) sc_l_text_world.nd rfl (by first | exact Or.inl rfl | exact Or.inr rfl) (pe_callTy call_list_of (by rfl) T.b_list boot_list_ (pa_cons (pe_ix ix_list (pv 1) pe_int (fun _ _ => rfl)) pa_nil)))
      (C8.pss_cut (ps_for PassesOwn.never rfl (pi_range1 (by rfl) T.b_range (pa_cons pe_int pa_nil)) (pg_name (i := 5) sc_l_text_world.nd rfl (by first | exact Or.inl rfl | exact Or.inr rfl)) (pss_one (ps_if (pt_cmpR op_gt (pe_callB call_len_str (by rfl) T.b_len boot_len (pa_cons (pe_ix ix_list (pv 3) (pv 5) (fun _ _ => rfl)) pa_nil)) pe_int (nomark _)) (pss_one (ps_asg (pe_op op_add_str pe_str (pe_ix ix_str pe_str (pv 5) (fun _ _ => rfl))) (pg_sub (pv 3) (pv 5) set_list))) pss_nil)))
      (pss_cons (ps_set (i := 6) sc_l_text_world.nd rfl (by first | exact Or.inl rfl | exact Or.inr rfl) (pe_ix ix_list (pe_lst (pa_cons pe_str (pa_cons pe_str (pa_cons pe_str (pa_cons pe_str pa_nil))))) (pe_c c_l_take hr (pa_cons (pv 0) (pa_cons pe_int pa_nil))) (fun _ _ => rfl)))
      (C8.pss_cut (ps_if (pt_cmpR op_ne (pv 6) pe_str (nomark _)) (pss_one (ps_asg (pe_tup (pa_cons (pv 6) (pa_cons (pe_ix ix_tup (pe_ix ix_list (pv 2) pe_int (fun _ _ => rfl)) pe_int (fun _ _ => rfl)) pa_nil))) (pg_sub (pv 2) pe_int set_list))) pss_nil)
      (C8.pss_cut (ps_if (pt_cmpR op_eq (pe_c c_l_take hr (pa_cons (pv 0) (pa_cons pe_int pa_nil))) pe_int (nomark _)) (pss_one (ps_asg (pe_tup (pa_cons (pe_ix ix_tup (pe_ix ix_list (pv 2) pe_int (fun _ _ => rfl)) pe_int (fun _ _ => rfl)) (pa_cons (pe_ix ix_list (pe_lst (pa_cons pe_int (pa_cons pe_int pa_nil))) (pe_c c_l_take hr (pa_cons (pv 0) (pa_cons pe_int pa_nil))) (fun _ _ => rfl)) pa_nil))) (pg_sub (pv 2) pe_int set_list))) pss_nil)
      (C8.pss_cut (ps_if (pt_cmpR op_eq (pe_c c_l_take hr (pa_cons (pv 0) (pa_cons pe_int pa_nil))) pe_int (nomark _)) (pss_one (ps_asg (pe_ix ix_list (pe_lst (pa_cons pe_str (pa_cons pe_str pa_nil))) (pe_c c_l_take hr (pa_cons (pv 0) (pa_cons pe_int pa_nil))) (fun _ _ => rfl)) (pg_sub (pv 3) pe_int set_list))) pss_nil)
      (C8.pss_cut (ps_if (pt_cmpR op_eq (pe_c c_l_take hr (pa_cons (pv 0) (pa_cons pe_int pa_nil))) pe_int (nomark _)) (pss_one (ps_asg (pe_c c_l_great hr (pa_cons (pv 0) pa_nil)) (pg_sub (pv 4) pe_int set_list))) pss_nil)
      (C8.pss_cut (ps_if (pt_cmpR op_eq (pe_c c_l_take hr (pa_cons (pv 0) (pa_cons pe_int pa_nil))) pe_int (nomark _)) (pss_one (ps_asg (pe_ix ix_list (pv 3) pe_int (fun _ _ => rfl)) (pg_sub (pv 4) pe_int set_list))) pss_nil)
      (pss_one (ps_ret (pe_lst (pa_cons (pe_callTy call_tuple_of (by rfl) T.b_tuple boot_tuple_ (pa_cons (pe_callB (cr_sortNP (K := K) rfl hr.units) (by rfl) T.b_sorted boot_sorted_ (pa_cons (pv 2) pa_nil)) pa_nil)) (pa_cons (pe_callB cr_sortedS (by rfl) T.b_sorted boot_sorted_ (pa_cons (pv 3) pa_nil)) (pa_cons (pv 4) pa_nil))))))))))))))))), ?_⟩
    wtm_at "rd"
    refine ⟨dp, rfl, hd, fun wp H1 sch ns ts k1 hd1 hW hO => ?_⟩
    obtain ⟨sp, np0, vp0, sxs, h1, h2, h3, h4, h5, h6, h7, h8⟩ := hW.ex
    wtm_at "rd"
    refine ⟨_, SqL.of h1, _, atI_nat (j := 0) rfl, sp, rfl, _, .inr (SqT.of h2), fun sc hsc => ?_⟩
    have sa := same_new hsc (.lst sxs)
    refine ⟨_, SqL.of (sa _ _ h1), _, atI_nat (j := 1) rfl, np0, rfl, _, .inl (SqL.of (sa _ _ h4)), fun np hnp => ?_⟩
    have sb := same_new hnp (.lst (sL ns))
    refine ⟨_, SqL.of (sb _ _ (sa _ _ h1)), _, atI_nat (j := 2) rfl, vp0, rfl, _, .inl (SqL.of (sb _ _ (sa _ _ h5))), fun vp hvp => ?_⟩
    have sc' := same_new hvp (.lst (vL ts))
    have hscd := hd1.ne hsc
    have hda := hd1.upd_ne' (o := .lst sxs) hscd
    have hnpd := hda.ne hnp
    have hdb := hda.upd_ne' (o := .lst (sL ns)) hnpd
    have hvpd := hdb.ne hvp
    have hdc := hdb.upd_ne' (o := .lst (vL ts)) hvpd
    have A : Ap dp H1 sc np vp := by
      refine ⟨hsc, ?_, ?_, hscd, hnpd, hvpd, ne_of_none upd_same hnp, ne_of_none (sb _ _ upd_same) hvp, ne_of_none upd_same hvp⟩
      · cases e : H1 np with
        | none => rfl
        | some o => rw [sa _ _ e] at hnp; cases hnp
      · cases e : H1 vp with
        | none => rfl
        | some o => rw [sb _ _ (sa _ _ e)] at hvp; cases hvp
    have sall := sa.trans (sb.trans sc')
    have ti0 : TI dp H1 sc np vp (upd (upd (upd H1 sc (.lst sxs)) np (.lst (sL ns))) vp (.lst (vL ts))) := ⟨Kp.same sall, hdc, sxs, sch, ns, ts, sc' _ _ (sb _ _ upd_same), h3.kt (KT.same sall), sc' _ _ upd_same, upd_same, hO⟩
    generalize upd (upd (upd H1 sc (.lst sxs)) np (.lst (sL ns))) vp (.lst (vL ts)) = H2 at ti0 ⊢
    obtain ⟨Mid, hMid⟩ : ∃ Mid : L2.St → Hp → Prop, ∀ σ H', Mid σ H' ↔ TI dp H1 sc np vp H' ∧ ∃ u5 u6, σ = [some (.ref dp), some (.ref wp), some (.ref sc), some (.ref np), some (.ref vp), u5, u6] := ⟨_, fun _ _ => Iff.rfl⟩
    refine ⟨by decide, by decide, Mid, ?_, fun σ3 H3 hm3 => ?_⟩
    · obtain ⟨Pv, hPv⟩ := opq3 fun _ σ H' => Mid σ H'
      refine forb (walk_range (lo := 0) (n := 3)) Pv ((hPv _ _ _).mpr ((hMid _ _).mpr ⟨ti0, none, none, rfl⟩)) (fun _ _ _ _ => trivial) (fun i x σ H' H5 hi pv y => ?_) (fun σ H' pv => (hPv _ _ _).mp pv)
      obtain ⟨ti, u5, u6, rfl⟩ := (hMid _ _).mp ((hPv _ _ _).mp pv)
      obtain ⟨rfl, rfl⟩ := y
      obtain ⟨sxs, sch, ns, ts, td⟩ := ti.ex
      have hnl := td.ok.nl
      have hat : (sL ns)[i]? = some (.str (S (ns[i]'(by omega)))) := by rw [List.getElem?_map, List.getElem?_eq_getElem (by omega)]; rfl
      have hno := td.ok.nw (ns[i]'(by omega)) (List.getElem_mem _)
      wtm_at "rd"
      rw [Int.zero_add]
      refine ⟨_, SqL.of td.n, _, atI_nat hat, _, rfl, le_line (by rw [S_len]; omega), ite2 (fun h => ?_) (fun h => ?_)⟩
      · have habc : ([97, 98, 99] : List Nat)[i]? = some (97 + i) := by
          match i, hi with
          | 0, _ => rfl
          | 1, _ => rfl
          | 2, _ => rfl
        refine ⟨97 + i, atI_nat habc, le_line (by decide), _, td.n, i, ?_, ?_⟩
        · unfold ixN
          rw [List.length_map, if_pos (by omega), if_pos (by omega), Int.toNat_natCast]
        · refine (hPv _ _ _).mpr ((hMid _ _).mpr ⟨⟨ti.k.mutn A.n0, ti.d.upd_ne' A.nd, sxs, sch, ns.set i [122, 122, 122, 122, 122, 122, 122, 97 + i], ts, ?_⟩, _, _, rfl⟩)
          have e : (S [122, 122, 122, 122, 122, 122, 122] ++ ({ cps := #[97 + i] } : Str)) = S [122, 122, 122, 122, 122, 122, 122, 97 + i] := S_cat [122, 122, 122, 122, 122, 122, 122] [97 + i]
          rw [e]
          exact td.setN A (by
            match i, hi with
            | 0, _ => decide
            | 1, _ => decide
            | 2, _ => decide) (by simp)
      · exact (hPv _ _ _).mpr ((hMid _ _).mpr ⟨ti, _, _, rfl⟩)
    · obtain ⟨ti, u5, u6, rfl⟩ := (hMid _ _).mp hm3
      wtm_at "rd"
      intro p4 hp4
      have hp4d := ti.d.ne hp4
      have ti4 := ti.kp A ((Kp.refl dp H3).new (o := .lst (sL [[116, 97, 98, 108, 101], [], [110, 111, 110, 101], []])) hp4) (ti.d.upd_ne' hp4d)
      refine ⟨dp, 4, rfl, by decide, ti4.d, fun r H4 hr4 k4 hd4 => ?_⟩
      have ti5 := ti4.kp A k4 hd4
      obtain ⟨u, hu, hat⟩ := litS_at (us := [[116, 97, 98, 108, 101], [], [110, 111, 110, 101], []]) hr4
      wtm_at "rd"
      refine ⟨_, SqL.of (k4 _ _ hp4d upd_same), _, atI_nat hat, rfl, Mid, ?_, fun σ5 H5 hm5 => ?_⟩
      · refine ite2 (fun h => ?_) (fun h => ?_)
        · have hu0 : u ≠ [] := fun z => h (by rw [z])
          have huw : isWord u = true ∧ u.length ≤ 400 := by
            simp at hu
            rcases hu with rfl | rfl | rfl | rfl
            · exact ⟨by decide, by decide⟩
            · exact absurd rfl hu0
            · exact ⟨by decide, by decide⟩
            · exact absurd rfl hu0
          obtain ⟨sxs, sch, ns, ts, td⟩ := ti5.ex
          obtain ⟨p0, n0, hx0, hp0, hn0, hxl⟩ := td.head
          refine ⟨_, SqL.of td.s, _, atI_nat (j := 0) hx0, p0, rfl, _, SqT.of hp0, _, rfl, fun p6 hp6 => ?_⟩
          have td6 := td.kp A ((Kp.refl dp H4).new (o := .tup [.str (S u), .int ((n0.2 : Nat) : Int)]) hp6) ti5.d
          refine ⟨_, td6.s, 0, ixN_nat (i := 0) hxl, (hMid _ _).mpr ⟨⟨(ti5.k.new hp6).mutn A.s0, (ti5.d.upd_ne' (ti5.d.ne hp6)).upd_ne' A.sd, _, _, _, _, td6.setS A upd_same huw.1 huw.2 hn0.2.2⟩, _, _, rfl⟩⟩
        · exact (hMid _ _).mpr ⟨ti5, _, _, rfl⟩
      · clear hm3 ti ti4 ti5 k4 hd4 hat hu hr4 hp4
        obtain ⟨ti, u5, u6, rfl⟩ := (hMid _ _).mp hm5
        wtm_at "rd"
        refine ⟨Mid, ?_, fun σ6 H6 hm6 => ?_⟩
        · refine ⟨dp, 6, rfl, by decide, ti.d, fun r H7 hr7 k7 hd7 => ?_⟩
          have ti7 := ti.kp A k7 hd7
          wtm_at "rd"
          refine ite2 (fun _ => ?_) (fun _ => ?_)
          · obtain ⟨sxs, sch, ns, ts, td⟩ := ti7.ex
            obtain ⟨p0, n0, hx0, hp0, hn0, hxl⟩ := td.head
            refine ⟨_, SqL.of td.s, _, atI_nat (j := 0) hx0, p0, rfl, _, SqT.of hp0, _, rfl, fun p8 hp8 => ?_⟩
            have hp8d := ti7.d.ne hp8
            have ti8 := ti7.kp A ((Kp.refl dp H7).new (o := .lst ([8, 5].map fun (k : Nat) => V.int (k : Int))) hp8) (ti7.d.upd_ne' hp8d)
            refine ⟨dp, 2, rfl, by decide, ti8.d, fun r9 H9 hr9 k9 hd9 => ?_⟩
            have ti9 := ti8.kp A k9 hd9
            obtain ⟨j, hj, hat⟩ := lit_at (ks := [8, 5]) hr9
            have hj' : j ≤ 8 := by simp at hj; omega
            wtm_at "rd"
            obtain ⟨sxs, sch, ns, ts, td⟩ := ti9.ex
            obtain ⟨_, _, _, _, _, hxl⟩ := td.head
            refine ⟨_, SqL.of (k9 _ _ hp8d upd_same), _, atI_nat hat, fun p6 hp6 => ?_⟩
            have td6 := td.kp A ((Kp.refl dp H9).new (o := .tup [.str (S n0.1), .int ((j : Nat) : Int)]) hp6) ti9.d
            refine ⟨_, td6.s, 0, ixN_nat (i := 0) hxl, (hMid _ _).mpr ⟨⟨(ti9.k.new hp6).mutn A.s0, (ti9.d.upd_ne' (ti9.d.ne hp6)).upd_ne' A.sd, _, _, _, _, td6.setS A upd_same hn0.1 hn0.2.1 hj'⟩, _, _, rfl⟩⟩
          · exact (hMid _ _).mpr ⟨ti7, _, _, rfl⟩
        · clear hm5 ti
          obtain ⟨ti, u5, u6, rfl⟩ := (hMid _ _).mp hm6
          wtm_at "rd"
          refine ⟨Mid, ?_, fun σ7 H7 hm7 => ?_⟩
          · refine ⟨dp, 4, rfl, by decide, ti.d, fun r H7 hr7 k7 hd7 => ?_⟩
            have ti7 := ti.kp A k7 hd7
            wtm_at "rd"
            refine ite2 (fun _ => ?_) (fun _ => ?_)
            · intro p8 hp8
              have hp8d := ti7.d.ne hp8
              have ti8 := ti7.kp A ((Kp.refl dp H7).new (o := .lst (sL [[110, 111, 110, 101], [116, 97, 98, 108, 101]])) hp8) (ti7.d.upd_ne' hp8d)
              refine ⟨dp, 2, rfl, by decide, ti8.d, fun r9 H9 hr9 k9 hd9 => ?_⟩
              have ti9 := ti8.kp A k9 hd9
              obtain ⟨u, hu, hat⟩ := litS_at (us := [[110, 111, 110, 101], [116, 97, 98, 108, 101]]) hr9
              have huw : isWord u = true ∧ u.length ≤ 400 := by
                simp at hu
                rcases hu with rfl | rfl
                · exact ⟨by decide, by decide⟩
                · exact ⟨by decide, by decide⟩
              wtm_at "rd"
              obtain ⟨sxs, sch, ns, ts, td⟩ := ti9.ex
              have hnl := td.ok.nl
              refine ⟨_, SqL.of (k9 _ _ hp8d upd_same), _, atI_nat hat, _, td.n, 0, ixN_nat (i := 0) (by rw [List.length_map]; omega), (hMid _ _).mpr ⟨⟨ti9.k.mutn A.n0, ti9.d.upd_ne' A.nd, _, _, _, _, td.setN A huw.1 huw.2⟩, _, _, rfl⟩⟩
            · exact (hMid _ _).mpr ⟨ti7, _, _, rfl⟩
          · clear hm6 ti
            obtain ⟨ti, u5, u6, rfl⟩ := (hMid _ _).mp hm7
            wtm_at "rd"
            refine ⟨Mid, ?_, fun σ8 H8 hm8 => ?_⟩
            · refine ⟨dp, 3, rfl, by decide, ti.d, fun r H7 hr7 k7 hd7 => ?_⟩
              have ti7 := ti.kp A k7 hd7
              wtm_at "rd"
              refine ite2 (fun _ => ?_) (fun _ => ?_)
              · refine ⟨dp, rfl, ti7.d, fun i H9 hi k9 hd9 => ?_⟩
                have ti9 := ti7.kp A k9 hd9
                obtain ⟨sxs, sch, ns, ts, td⟩ := ti9.ex
                have htl := td.ok.tl
                wtm_at "rd"
                exact ⟨_, td.v, 0, ixN_nat (i := 0) (by rw [List.length_map]; omega), (hMid _ _).mpr ⟨⟨ti9.k.mutn A.v0, ti9.d.upd_ne' A.vd, _, _, _, _, td.setV A (t := .int i) ⟨⟨trivial, hi⟩, nofun⟩⟩, _, _, rfl⟩⟩
              · exact (hMid _ _).mpr ⟨ti7, _, _, rfl⟩
            · clear hm7 ti
              obtain ⟨ti, u5, u6, rfl⟩ := (hMid _ _).mp hm8
              wtm_at "rd"
              refine ⟨Mid, ?_, fun σ9 H9 hm9 => ?_⟩
              · refine ⟨dp, 3, rfl, by decide, ti.d, fun r H7 hr7 k7 hd7 => ?_⟩
                have ti7 := ti.kp A k7 hd7
                wtm_at "rd"
                refine ite2 (fun _ => ?_) (fun _ => ?_)
                · obtain ⟨sxs, sch, ns, ts, td⟩ := ti7.ex
                  have hnl := td.ok.nl
                  have htl := td.ok.tl
                  have h1l : 1 < ns.length := by omega
                  have hno := td.ok.nw (ns[1]'h1l) (List.getElem_mem _)
                  exact ⟨_, SqL.of td.n, _, atI_nat (j := 1) (v := .str (S (ns[1]'h1l))) (by rw [List.getElem?_map, List.getElem?_eq_getElem (by omega)] <;> rfl), _, td.v, 2, ixN_nat (i := 2) (by rw [List.length_map] <;> omega), (hMid _ _).mpr ⟨⟨ti7.k.mutn A.v0, ti7.d.upd_ne' A.vd, _, _, _, _, td.setV A (t := .word (ns[1]'h1l)) (VB.word hno.1 hno.2)⟩, _, _, rfl⟩⟩
                · exact (hMid _ _).mpr ⟨ti7, _, _, rfl⟩
              · clear hm8 ti
                obtain ⟨ti, u5, u6, rfl⟩ := (hMid _ _).mp hm9
                wtm_at "rd"
                obtain ⟨sxs, sch, ns, ts, td⟩ := ti.ex
                obtain ⟨bs, hb1, hb2, hb3, hb4⟩ := sch_np td.r
                have hO9 := td.ok
                have hl1 := hO9.l1
                refine ⟨sc, bs, rfl, SqL.of (by rw [hb1]; exact td.s), hb3, by omega, fun cs p hcs hp => ?_⟩
                have hpd := ti.d.ne hp
                have s1 := same_new hp (.lst (cs.map fun b => b.1))
                refine ⟨p, rfl, _, .inl ⟨SqL.of upd_same, fun l hl => ?_⟩⟩
                have s2 := same_new hl (.tup (cs.map fun b => b.1))
                have s12 := s1.trans s2
                have hd1' := ti.d.upd_ne' (o := .lst (cs.map fun b => b.1)) hpd
                have hd2' := hd1'.upd_ne' (o := .tup (cs.map fun b => b.1)) (hd1'.ne hl)
                have hcs3 : ∀ b ∈ cs, ∃ t, b.1 = .ref t ∧ upd (upd H9 p (.lst (cs.map fun b => b.1))) l (.tup (cs.map fun b => b.1)) t = some (.tup [.str (S b.2.1), .int b.2.2]) := fun b hb => by
                  obtain ⟨t, e, ht⟩ := hb3 b (hcs.mem_iff.mp hb)
                  exact ⟨t, e, s12 _ _ ht⟩
                have hr9 := np_sch hcs3 fun b hb => (hb4 b (hcs.mem_iff.mp hb)).1
                have hl9 : upd (upd H9 p (.lst (cs.map fun b => b.1))) l (.tup (cs.map fun b => b.1)) l = some (.tup (cs.map fun b => b.1)) := upd_same
                have hn9 := s12 _ _ td.n
                have hv9 := s12 _ _ td.v
                have k9 := ti.k.trans (Kp.same s12)
                generalize upd (upd H9 p (.lst (cs.map fun b => b.1))) l (.tup (cs.map fun b => b.1)) = Ha at hd2' hr9 hl9 hn9 hv9 k9 ⊢
                refine ⟨np, ns.map S, rfl, SqL.of (by rw [hn9, sL_strs]), by rw [List.length_map, hO9.nl]; decide, fun ys p5 hperm _ hp5 => ?_⟩
                obtain ⟨ns', rfl, hpn⟩ := perm_S hperm
                intro wp' hwp'
                have hp5d := hd2'.ne hp5
                have s5 := same_new hp5 (.lst ((ns'.map S).map V.str))
                have hd5' := hd2'.upd_ne' (o := .lst ((ns'.map S).map V.str)) hp5d
                have s6 := same_new hwp' (.lst [.ref l, .ref p5, .ref vp])
                have s56 := s5.trans s6
                refine q wp' _ (k1.trans (k9.trans (Kp.same s56))) (hd5'.upd_ne' (hd5'.ne hwp')) ⟨_, ns', ts, ⟨l, p5, vp, _, upd_same, s56 _ _ hl9, hr9.kt (KT.same s56), s6 _ _ (by rw [upd_same, sL_strs]), s56 _ _ hv9, hp5d, A.vd, hd5'.ne hwp'⟩, ⟨?_, ?_, fun n hn => ?_, by rw [hpn.length_eq]; exact hO9.nl, fun u hu => hO9.nw u (hpn.mem_iff.mp hu), hO9.tl, hO9.tv⟩⟩
                · rw [List.length_map, hcs.length_eq, hb2]; exact hO9.l0
                · rw [List.length_map, hcs.length_eq, hb2]; exact hO9.l1
                · obtain ⟨b, hb, rfl⟩ := List.mem_map.mp hn
                  exact hO9.sc _ (hb4 b (hcs.mem_iff.mp hb)).2
end
end K26

end
section
set_option linter.all false
set_option maxRecDepth 100000
set_option maxHeartbeats 4000000
namespace K26
open PySem.NumText
/-! ### pieces of texts -/
def oc (u : List Nat) : Nat := u.countP fun c => decide (c = 33) || decide (c = 91)
def isO (u : List Nat) : Prop := ∀ c ∈ u, isD c = false
def DN (u : List Nat) : Prop := (∀ c ∈ u, isD c = true) ∨ ∃ r, u = 45 :: r ∧ ∀ c ∈ r, isD c = true
structure Pc (b : Nat) (u : List Nat) : Prop where
  sh : isO u ∨ (DN u ∧ u.length ≤ 100 + 2 * b)
  op : oc u ≤ 1
  len : u.length ≤ 2000 + 2 * b
  ch : ∀ c ∈ u, c < 1114112
theorem Pc.mono {b c : Nat} {u : List Nat} (h : Pc b u) (hb : b ≤ c) : Pc c u := ⟨h.sh.imp id fun z => ⟨z.1, by have := z.2; omega⟩, h.op, by have := h.len; omega, h.ch⟩
theorem isO_word {u : List Nat} (h : isWord u = true) : isO u := fun c hc => by
  have := isL_iff.mp ((isWord_iff.mp h).2 c hc)
  simp [isD]; omega
theorem oc_app (a b : List Nat) : oc (a ++ b) = oc a + oc b := List.countP_append ..
theorem oc_zero {u : List Nat} (h : ∀ c ∈ u, c ≠ 33 ∧ c ≠ 91) : oc u = 0 := by
  unfold oc
  rw [List.countP_eq_zero]
  intro c hc
  have := h c hc
  simp; exact this
theorem oc_word {u : List Nat} (h : isWord u = true) : oc u = 0 := oc_zero fun c hc => by
  have := isL_iff.mp ((isWord_iff.mp h).2 c hc)
  omega
theorem ch_word {u : List Nat} (h : isWord u = true) : ∀ c ∈ u, c < 1114112 := fun c hc => by
  have := isL_iff.mp ((isWord_iff.mp h).2 c hc)
  omega
theorem ch_app {a b : List Nat} (ha : ∀ c ∈ a, c < 1114112) (hb : ∀ c ∈ b, c < 1114112) : ∀ c ∈ a ++ b, c < 1114112 := fun c hc => (List.mem_append.mp hc).elim (ha c) (hb c)
theorem ch_one {d : Nat} (h : d < 1114112) : ∀ c ∈ [d], c < 1114112 := fun c hc => by rw [List.mem_singleton.mp hc]; exact h
theorem Pc.word {u : List Nat} {b : Nat} (h : isWord u = true) (hl : u.length ≤ 2000) : Pc b u := ⟨.inl (isO_word h), by rw [oc_word h]; omega, by omega, ch_word h⟩
theorem isO_app {a b : List Nat} (ha : isO a) (hb : isO b) : isO (a ++ b) := fun c hc => (List.mem_append.mp hc).elim (ha c) (hb c)
theorem isO_cons {a : Nat} {b : List Nat} (ha : isD a = false) (hb : isO b) : isO (a :: b) := fun c hc => (List.mem_cons.mp hc).elim (fun e => e ▸ ha) (hb c)
theorem isO_sub {a b : List Nat} (h : isO b) (hs : ∀ c ∈ a, c ∈ b) : isO a := fun c hc => h c (hs c hc)
theorem oc_sub {a b : List Nat} (h : List.Sublist a b) : oc a ≤ oc b := h.countP_le
theorem DN.dig {u : List Nat} (h : DN u) : oc u = 0 := oc_zero fun c hc => by
  rcases h with h | ⟨r, rfl, h⟩
  · have := isD_iff.mp (h c hc); omega
  · rcases List.mem_cons.mp hc with e | hc
    · omega
    · have := isD_iff.mp (h c hc); omega
theorem DN.ch {u : List Nat} (h : DN u) : ∀ c ∈ u, c < 1114112 := fun c hc => by
  rcases h with h | ⟨r, rfl, h⟩
  · have := isD_iff.mp (h c hc); omega
  · rcases List.mem_cons.mp hc with e | hc
    · omega
    · have := isD_iff.mp (h c hc); omega
theorem Pc.dn {u : List Nat} {b : Nat} (h : DN u) (hl : u.length ≤ 100 + 2 * b) : Pc b u := ⟨.inr ⟨h, hl⟩, by rw [h.dig]; omega, by omega, h.ch⟩
theorem dn_int (i : Int) : DN (intL i) := by
  unfold intL
  split
  · exact .inr ⟨_, rfl, fun c hc => isD_iff.mpr (natL_dig _ c hc)⟩
  · exact .inl fun c hc => isD_iff.mpr (natL_dig _ c hc)
theorem Pc.val {t : Tm} {b : Nat} (h : TB t) : Pc b (txt (tokOf t)) := by
  have hl := h.txt_len
  cases t with
  | var u => exact Pc.word h.1 (by have := h.2; show u.length ≤ 2000; exact Nat.le_trans this (by decide))
  | int i => exact Pc.dn (dn_int i) (by have := hl.2 i rfl; omega)
  | word u =>
    have hw : isWord u = true := h.1
    refine ⟨.inl ?_, ?_, by have := hl.1; omega, ch_app (a := [34]) (ch_one (by decide)) (ch_app (ch_word hw) (ch_one (by decide)))⟩
    · exact isO_cons (by decide) (isO_app (isO_word hw) (isO_cons (by decide) (by intro c hc; cases hc)))
    · have e : oc (34 :: (u ++ [34])) = oc ([34] ++ (u ++ [34])) := rfl
      show oc (34 :: (u ++ [34])) ≤ 1
      rw [e, oc_app, oc_app, oc_word hw]
      decide
theorem Pc.one (c : Nat) {b : Nat} (h : c < 1114112 := by decide) : Pc b [c] := by
  refine ⟨?_, ?_, by simp; omega, ch_one h⟩
  · cases h : isD c with
    | false => exact .inl (by intro d hd; rw [List.mem_singleton.mp hd]; exact h)
    | true => exact .inr ⟨.inl (by intro d hd; rw [List.mem_singleton.mp hd]; exact h), by simp; omega⟩
  · have := List.countP_le_length (p := fun c => decide (c = 33) || decide (c = 91)) (l := [c])
    exact this
theorem Pc.nil {b : Nat} : Pc b [] := ⟨.inl (by intro c hc; cases hc), by decide, by simp, by intro c hc; cases hc⟩
/-- near a piece -/
theorem Pc.dig {b d : Nat} {r : List Nat} (h : Pc b (d :: r)) (hd : isD d = true) : (∀ c ∈ d :: r, isD c = true) ∧ (d :: r).length ≤ 100 + 2 * b := by
  rcases h.sh with h | ⟨h, hl⟩
  · have := h d List.mem_cons_self
    rw [hd] at this; cases this
  · rcases h with h | ⟨r', e, h⟩
    · exact ⟨h, hl⟩
    · injection e with e1 e2
      rw [e1] at hd
      exact absurd hd (by decide)
theorem Pc.quo {b : Nat} {r : List Nat} (h : Pc b (34 :: r)) : isO (34 :: r) := by
  rcases h.sh with h | ⟨h, hl⟩
  · exact h
  · rcases h with h | ⟨r', e, h⟩
    · exact absurd (h 34 List.mem_cons_self) (by decide)
    · injection e with e1 e2
      exact absurd e1 (by decide)
/-! ### lists of pieces -/
def ocs (l : List (List Nat)) : Nat := (l.map oc).sum
def wt (l : List (List Nat)) : Nat := (l.map fun u => u.length + 3).sum
structure Ls (b W O : Nat) (l : List (List Nat)) : Prop where
  pc : ∀ u ∈ l, Pc b u
  wt : wt l ≤ W
  op : ocs l ≤ O
theorem wt_app (a b : List (List Nat)) : wt (a ++ b) = wt a + wt b := by unfold wt; rw [List.map_append, List.sum_append]
theorem ocs_app (a b : List (List Nat)) : ocs (a ++ b) = ocs a + ocs b := by unfold ocs; rw [List.map_append, List.sum_append]
theorem wt_len (l : List (List Nat)) : 3 * l.length ≤ wt l := by
  induction l with
  | nil => simp
  | cons u r ih => show 3 * (r.length + 1) ≤ (u.length + 3) + wt r; omega
theorem Ls.app {b W O W' O' : Nat} {l m : List (List Nat)} (h : Ls b W O l) (k : Ls b W' O' m) : Ls b (W + W') (O + O') (l ++ m) :=
  ⟨fun u hu => (List.mem_append.mp hu).elim (h.pc u) (k.pc u), by rw [wt_app]; have := h.wt; have := k.wt; omega, by rw [ocs_app]; have := h.op; have := k.op; omega⟩
theorem Ls.mono {b W O b' W' O' : Nat} {l : List (List Nat)} (h : Ls b W O l) (hb : b ≤ b') (hW : W ≤ W') (hO : O ≤ O') : Ls b' W' O' l := ⟨fun u hu => (h.pc u hu).mono hb, Nat.le_trans h.wt hW, Nat.le_trans h.op hO⟩
theorem Ls.one {b : Nat} {u : List Nat} (h : Pc b u) : Ls b (2003 + 2 * b) 1 [u] := ⟨fun v hv => by rw [List.mem_singleton.mp hv]; exact h, by show u.length + 3 + 0 ≤ _; have := h.len; omega, by show oc u + 0 ≤ 1; have := h.op; omega⟩
theorem wt_sub {a b : List (List Nat)} (h : List.Sublist a b) : wt a ≤ wt b := by
  induction h with
  | slnil => exact Nat.le_refl _
  | cons u _ ih => exact Nat.le_trans ih (by show wt _ ≤ _ + wt _; omega)
  | cons_cons u _ ih => show _ + wt _ ≤ _ + wt _; omega
theorem ocs_sub {a b : List (List Nat)} (h : List.Sublist a b) : ocs a ≤ ocs b := by
  induction h with
  | slnil => exact Nat.le_refl _
  | cons u _ ih => exact Nat.le_trans ih (by show ocs _ ≤ _ + ocs _; omega)
  | cons_cons u _ ih => show _ + ocs _ ≤ _ + ocs _; omega
theorem Ls.sub {b W O : Nat} {l m : List (List Nat)} (h : Ls b W O l) (s : List.Sublist m l) : Ls b W O m := ⟨fun u hu => h.pc u (s.subset hu), Nat.le_trans (wt_sub s) h.wt, Nat.le_trans (ocs_sub s) h.op⟩
theorem Ls.insert {b W O : Nat} {l : List (List Nat)} {u : List Nat} (i : Nat) (h : Ls b W O l) (hu : Pc b u) : Ls b (W + (2003 + 2 * b)) (O + 1) (l.take i ++ [u] ++ l.drop i) := by
  have e1 := wt_app (l.take i) (l.drop i)
  have e2 := ocs_app (l.take i) (l.drop i)
  rw [List.take_append_drop] at e1 e2
  have o := Ls.one hu
  refine ⟨fun v hv => ?_, ?_, ?_⟩
  · rcases List.mem_append.mp hv with hv | hv
    · rcases List.mem_append.mp hv with hv | hv
      · exact h.pc v (List.mem_of_mem_take hv)
      · exact o.pc v hv
    · exact h.pc v (List.mem_of_mem_drop hv)
  · rw [wt_app, wt_app]; have := h.wt; have := o.wt; omega
  · rw [ocs_app, ocs_app]; have := h.op; have := o.op; omega
theorem Ls.set {b W O : Nat} {l : List (List Nat)} {u : List Nat} (i : Nat) (h : Ls b W O l) (hu : Pc b u) : Ls b (W + (2003 + 2 * b)) (O + 1) (l.set i u) := by
  refine ⟨fun v hv => (List.mem_or_eq_of_mem_set hv).elim (h.pc v) fun e => e ▸ hu, ?_, ?_⟩
  · have : K26.wt (l.set i u) ≤ K26.wt l + (u.length + 3) := by
      clear h
      induction l generalizing i with
      | nil => simp [wt]
      | cons a r ih =>
        cases i with
        | zero => show u.length + 3 + K26.wt r ≤ (a.length + 3 + K26.wt r) + _; omega
        | succ i => have := ih i; show a.length + 3 + K26.wt (r.set i u) ≤ (a.length + 3 + K26.wt r) + _; omega
    have := h.wt
    have := hu.len
    omega
  · have : ocs (l.set i u) ≤ ocs l + oc u := by
      clear h
      induction l generalizing i with
      | nil => simp [ocs]
      | cons a r ih =>
        cases i with
        | zero => show oc u + ocs r ≤ (oc a + ocs r) + _; omega
        | succ i => have := ih i; show oc a + ocs (r.set i u) ≤ (oc a + ocs r) + _; omega
    have := h.op
    have := hu.op
    omega
end K26

end
section
set_option linter.all false
set_option maxRecDepth 100000
set_option maxHeartbeats 4000000
namespace K26
open PySem.NumText
/-- the open signs among the tokens are signs of the text -/
theorem opens_oc : ∀ (m off : Nat) (s : List Nat), s.length ≤ m → opens (toks off s) ≤ oc s
  | m, off, s, hm => by
    have hsub : oc (s.drop (spn s)) ≤ oc s := oc_sub (List.drop_sublist _ _)
    cases h : s.drop (spn s) with
    | nil => rw [toks_nil h]; simp [opens, isOpen]
    | cons c r =>
      cases h' : lex c r with
      | none => rw [toks_bad h h']; simp [opens, isOpen]
      | some p =>
        obtain ⟨t, n⟩ := p
        have hl := lex_len h'
        have h2 : 0 < (s.drop (spn s)).length := by rw [h]; simp
        rw [List.length_drop] at h2
        rw [toks_cons h h']
        cases m with
        | zero => omega
        | succ m =>
          have ih := opens_oc m (off + spn s + n) (s.drop (spn s + n)) (by rw [List.length_drop]; omega)
          have e1 : opens ((off + spn s, t) :: toks (off + spn s + n) (s.drop (spn s + n))) = opens (toks (off + spn s + n) (s.drop (spn s + n))) + (if isOpen t = true then 1 else 0) := by
            unfold opens
            rw [List.countP_cons]
          have e2 : s.drop (spn s) = txt t ++ s.drop (spn s + n) := by
            rw [(lex_txt h').1, ← h, ← List.drop_drop, List.take_append_drop]
          have e3 : (if isOpen t = true then 1 else 0) ≤ oc (txt t) := by
            cases t with
            | sg d =>
              show (if isOpen (.sg d) = true then 1 else 0) ≤ oc [d]
              unfold oc isOpen
              rw [List.countP_cons]
              simp
            | _ => simp [isOpen]
          rw [e1]
          rw [e2, oc_app] at hsub
          omega
/-- two pieces that stand together without a gap -/
theorem toks_two {u v : List Nat} (h : texts (toks 0 (u ++ v)) = [u, v, []]) : u ≠ [] ∧ ∀ c d, u.getLast? = some c → isD c = true → v.head? = some d → isD d = false := by
  have hW := wf_toks (u ++ v).length 0 (u ++ v) (Nat.le_refl _)
  cases hx : (u ++ v).drop (spn (u ++ v)) with
  | nil => rw [toks_nil hx] at h; simp at h
  | cons c r =>
    cases h' : lex c r with
    | none => rw [toks_bad hx h'] at h; simp at h
    | some p =>
      obtain ⟨t, n⟩ := p
      rw [toks_cons hx h'] at h hW
      simp only [List.map_cons, List.cons.injEq] at h
      obtain ⟨hu, hv⟩ := h
      have hok := hW.ok
      have hnf := lex_not h'
      have hune : u ≠ [] := fun z => hnf.1 ((txt_nil hok).mp (by rw [hu, z]))
      refine ⟨hune, fun a d ha had hd => ?_⟩
      -- the token ends with a digit: an integer
      have hit : ∃ i, t = .it i := by
        have hm : a ∈ txt t := by rw [hu]; exact List.mem_of_getLast? ha
        have had' := isD_iff.mp had
        cases t with
        | it i => exact ⟨i, rfl⟩
        | sg s =>
          have := List.mem_singleton.mp hm
          subst this
          have := (sg_not hok).2.2.2.1
          omega
        | wd w =>
          have := isL_iff.mp ((isWord_iff.mp hok).2 a hm)
          omega
        | qd w =>
          have hw : isWord w = true := hok
          rcases List.mem_cons.mp hm with e | hm
          · omega
          · rcases List.mem_append.mp hm with hm | hm
            · have := isL_iff.mp ((isWord_iff.mp hw).2 a hm)
              omega
            · have := List.mem_singleton.mp hm
              omega
        | bad => exact absurd rfl hnf.2
        | fin => exact absurd rfl hnf.1
      obtain ⟨i, rfl⟩ := hit
      have htx := (lex_txt h').1
      -- no space stands ahead
      have hsp : spn (u ++ v) = 0 := by
        cases u with
        | nil => exact absurd rfl hune
        | cons u0 ur =>
          have h0 : u0 ≠ 32 := fun z => by
            have hm : (32 : Nat) ∈ txt (.it i) := by rw [hu, z]; exact List.mem_cons_self
            rcases intL_chars i 32 hm with e | e <;> omega
          show (List.takeWhile _ (u0 :: (ur ++ v))).length = 0
          rw [List.takeWhile_cons, if_neg (by simpa using h0)]
          rfl
      rw [hsp, List.drop_zero] at hx
      have hun : u.length = n := by
        have := congrArg List.length htx
        rw [hu, List.length_take] at this
        have := (lex_len h').2
        omega
      have hdv : (c :: r).drop n = v := by rw [← hx, ← hun, List.drop_left]
      have hnd : ∀ e q, (c :: r).drop n = e :: q → isD e = false := by
        unfold lex at h'
        split at h'
        · cases h'
        · split at h'
          · cases h'
          · split at h'
            · dsimp only at h'
              split at h' <;> cases h'
            · obtain ⟨h1, h2, neg, ds, hneg, hds, hn, _, hne, h0⟩ := lexI_spec h'
              intro e q he
              cases neg with
              | false =>
                simp only [Bool.false_eq_true, if_false, Nat.add_zero] at hds hn
                rw [hn, hds] at he
                exact tw_next isD _ e q he
              | true =>
                simp only [if_true] at hds hn
                rw [hn, hds, List.drop_succ_cons] at he
                exact tw_next isD _ e q he
      cases v with
      | nil => cases hd
      | cons e q =>
        cases hd
        exact hnd _ q hdv
/-- runs of digits over a seam -/
theorem tw_app {p : Nat → Bool} : ∀ (a b : List Nat), (a ++ b).takeWhile p = if a.all p = true then a ++ b.takeWhile p else a.takeWhile p
  | [], b => rfl
  | c :: a, b => by
    rw [List.cons_append, List.takeWhile_cons, List.takeWhile_cons, tw_app a b]
    cases h : p c with
    | false => simp [h]
    | true =>
      by_cases ha : a.all p = true
      · rw [if_pos ha, if_pos rfl, if_pos (by rw [List.all_cons, h, ha]; rfl)]; rfl
      · rw [if_neg ha, if_pos rfl, if_neg (by rw [List.all_cons, h]; simpa using ha)]
theorem DigOk.app {a b : List Nat} (ha : DigOk a) (hb : DigOk b) (h : ∀ c d, a.getLast? = some c → isD c = true → b.head? = some d → isD d = false) : DigOk (a ++ b) := by
  intro k
  by_cases hk : k < a.length
  · rw [List.drop_append_of_le_length (by omega), tw_app]
    by_cases hall : (a.drop k).all isD = true
    · rw [if_pos hall]
      have hne : a.drop k ≠ [] := fun z => by
        have := congrArg List.length z
        rw [List.length_drop] at this
        simp at this; omega
      obtain ⟨c, hc⟩ : ∃ c, (a.drop k).getLast? = some c := by
        cases h : (a.drop k).getLast? with
        | none => exact absurd (List.getLast?_eq_none_iff.mp h) hne
        | some c => exact ⟨c, rfl⟩
      have hac : a.getLast? = some c := by
        rw [← List.take_append_drop k a, List.getLast?_append, hc]
        rfl
      have hcd := List.all_eq_true.mp hall c (List.mem_of_getLast? hc)
      have hb0 : b.takeWhile isD = [] := by
        cases b with
        | nil => rfl
        | cons d q => rw [List.takeWhile_cons, h c d hac hcd rfl]; rfl
      have := ha k
      have e : (a.drop k).takeWhile isD = a.drop k := by
        have := tw_app (p := isD) (a.drop k) []
        rw [if_pos hall, List.append_nil] at this
        simpa using this
      rw [e] at this
      rw [hb0, List.append_nil]
      exact this
    · rw [if_neg hall]
      exact ha k
  · rw [List.drop_append, List.drop_eq_nil_of_le (by omega), List.nil_append]
    exact hb _
theorem digOk_short {a : List Nat} (h : a.length ≤ 600) : DigOk a := fun k => by
  have := run_len isD (a.drop k)
  rw [List.length_drop] at this
  omega
theorem digOk_isO {a : List Nat} (h : isO a) : DigOk a := fun k => by
  cases hx : a.drop k with
  | nil => simp
  | cons c r =>
    rw [List.takeWhile_cons, h c (List.mem_of_mem_drop (by rw [hx]; exact List.mem_cons_self))]
    simp
theorem Pc.digOk {b : Nat} {u : List Nat} (h : Pc b u) (hb : b ≤ 100) : DigOk u := by
  rcases h.sh with h | ⟨_, h⟩
  · exact digOk_isO h
  · exact digOk_short (by omega)
theorem sp_isO (n : Nat) : isO (List.replicate n 32) := fun c hc => by rw [(List.mem_replicate.mp hc).2]; decide
end K26

end
section
set_option linter.all false
set_option maxRecDepth 100000
set_option maxHeartbeats 4000000
namespace K26
open PySem PySem.Spec PyProof.Rows L2
open SX (S S_len S_cat S_inj)
open PySem.NumText
local macro_rules | `(tactic| wtm_at "rd") => `(tactic| try simp only [tSeq, tAsg, tVar, tC, gName, tRet, tRetN, tIfS, tNext, tDrop, tOp, tUn, rI0, rI, rU, tTest, tB, tAnd, tOr, tNot, tAndV, tOrV, tNotV, tIf, tCB, tCons, tNil, tTup, tLst, tCall, tSl, tPart, tNoPart, tBM, tBM0, gTup, gCons, gNil, gSub, tAug, ipI, rEq, rNe, sc_ii, sc_ss, sc_bb, sc_nn, sc_is, sc_si, sc_ns, sc_sn, sc_ni, sc_in, z0, z1, z2, z3, z4, z5, if_true, if_false, Bool.not_eq_true', decide_eq_false_iff_not, rIxS, rSlS, rSlL, tAugS, rGetL, cast1, rIxL, rIxT, rSetL, rAppend, rPop, rPopAt, rReverse, rCat, tYes, iRng1, iRng2, tMkBad, rIn, tFld, sFld, sFldAug, rAdd, tMeth, tMake, tCallS, tBadF, tM1, iList, iTup, iEnum, iEnumT, iStr, tBreak, C8.tCut, tFor_eq, tLc_eq, wipe_1,
  L2.start, List.map_cons, List.map_nil, List.cons_append, List.nil_append, List.append_nil, List.length_cons, List.length_nil, Nat.reduceAdd, Nat.reduceSub, List.replicate_succ, List.replicate_zero,
  List.getElem?_cons_succ, List.getElem?_cons_zero, List.set_cons_succ, List.set_cons_zero, Option.some.injEq, V.int.injEq, V.str.injEq, V.ref.injEq, V.bl.injEq, List.cons.injEq, and_assoc, and_true, true_and, exists_eq_left', exists_eq_left, exists_and_left, exists_and_right, exists_eq, decide_eq_true_eq, reduceCtorEq, false_and, and_false, exists_false, false_or, or_false, S_len, S_eq, k0, k1, k2, k3, k4, k5, k6, k7, k8, k9, k10, k11, k12, k13, k14, k15, k16, k17, k18, k19, k20, k21, k22, k23, k24, k25, k26, k27, k28, k29, k30, k31, k32, k33, k34, k35, k36, k37, k38, k39, k40, k41, k42, k43, k44, k45, k46, k47, k48, k49, k50, k51, k52, k53, Nat.zero_add])

section
theorem same_none {H H' : Hp} {p : Addr} (s : Same H H') (h : H' p = none) : H p = none := by
  cases e : H p with
  | none => rfl
  | some o => rw [s _ _ e] at h; cases h
mutual
def POk (n : Nat) : Pl → Prop
  | .scan i => i < n
  | .join ps => POks n ps
  | .proj x p => isWord x = true ∧ x.length ≤ 400 ∧ POk n p
def POks (n : Nat) : List Pl → Prop
  | [] => True
  | p :: r => POk n p ∧ POks n r
end
mutual
def pdep : Pl → Nat
  | .scan _ => 0
  | .join ps => pdeps ps + 1
  | .proj _ p => pdep p + 1
def pdeps : List Pl → Nat
  | [] => 0
  | p :: r => max (pdep p) (pdeps r)
end
mutual
def pw : Pl → Nat
  | .scan _ => 9000
  | .join ps => pws ps + 8
  | .proj _ p => pw p + 410
def pws : List Pl → Nat
  | [] => 0
  | p :: r => pw p + 4 + pws r
end
mutual
def po : Pl → Nat
  | .scan _ => 0
  | .join ps => pos ps + 1
  | .proj _ p => po p + 1
def pos : List Pl → Nat
  | [] => 0
  | p :: r => po p + pos r
end
theorem pws_app (a b : List Pl) : pws (a ++ b) = pws a + pws b := by
  induction a with
  | nil => simp [pws]
  | cons p r ih => show pw p + 4 + pws (r ++ b) = _; rw [ih]; simp [pws]; omega
theorem pos_app (a b : List Pl) : pos (a ++ b) = pos a + pos b := by
  induction a with
  | nil => simp [pos]
  | cons p r ih => show po p + pos (r ++ b) = _; rw [ih]; simp [pos]; omega
theorem POks.mem {n : Nat} : ∀ {ps : List Pl} {p : Pl}, POks n ps → p ∈ ps → POk n p
  | q :: r, p, h, hm => by
    rcases List.mem_cons.mp hm with e | hm
    · rw [e]; exact h.1
    · exact POks.mem h.2 hm
theorem pdeps_mem : ∀ {ps : List Pl} {p : Pl}, p ∈ ps → pdep p ≤ pdeps ps
  | q :: r, p, hm => by
    rcases List.mem_cons.mp hm with e | hm
    · rw [e]; show pdep q ≤ max (pdep q) (pdeps r); omega
    · have := pdeps_mem hm
      show pdep p ≤ max (pdep q) (pdeps r); omega
theorem pws_mem : ∀ {ps : List Pl} {p : Pl}, p ∈ ps → pw p ≤ pws ps
  | q :: r, p, hm => by
    rcases List.mem_cons.mp hm with e | hm
    · rw [e]; show pw q ≤ pw q + 4 + pws r; omega
    · have := pws_mem hm
      show pw p ≤ pw q + 4 + pws r; omega
/-- the pieces of an atom -/
theorem Ls.atom {a : Atom} {b : Nat} (h : AOk 2000 a) : Ls b 9000 0 (atT a) := by
  have one : ∀ u : List Nat, isWord u = true → u.length ≤ 2000 → Ls b (u.length + 3) 0 [u] := fun u hu hl => ⟨fun v hv => by rw [List.mem_singleton.mp hv]; exact Pc.word hu hl, by show u.length + 3 + 0 ≤ _; omega, by show oc u + 0 ≤ 0; rw [oc_word hu]; omega⟩
  have sg : ∀ c, (c ≠ 33 ∧ c ≠ 91) ∧ c < 1114112 → Ls b 4 0 [[c]] := fun c hc => ⟨fun v hv => by rw [List.mem_singleton.mp hv]; exact Pc.one c hc.2, by show 1 + 3 + 0 ≤ 4; omega, by show oc [c] + 0 ≤ 0; rw [oc_zero (by intro d hd; rw [List.mem_singleton.mp hd]; exact hc.1)]; omega⟩
  have tm : ∀ t, TB t → Ls b 405 0 [txt (tokOf t)] := fun t ht => ⟨fun v hv => by rw [List.mem_singleton.mp hv]; exact Pc.val ht, by have := ht.txt_len.1; show (txt (tokOf t)).length + 3 + 0 ≤ _; omega, by
    show oc (txt (tokOf t)) + 0 ≤ 0
    have : oc (txt (tokOf t)) = 0 := by
      cases t with
      | var u => exact oc_word ht.1
      | int i => exact (dn_int i).dig
      | word u =>
        have hw : isWord u = true := ht.1
        show oc (34 :: (u ++ [34])) = 0
        have e : oc (34 :: (u ++ [34])) = oc ([34] ++ (u ++ [34])) := rfl
        rw [e, oc_app, oc_app, oc_word hw]
        decide
    omega⟩
  have tms : ∀ l : List Tm, (∀ t ∈ l, TB t) → Ls b (409 * l.length) 0 (btw [44] (l.map fun t => txt (tokOf t))) := by
    intro l hl
    cases l with
    | nil => exact ⟨(by intro v hv; cases hv), (by show 0 ≤ _; omega), (by show 0 ≤ 0; omega)⟩
    | cons t r =>
      have hr : ∀ r : List Tm, (∀ t ∈ r, TB t) → Ls b (409 * r.length) 0 ((r.map fun t => txt (tokOf t)).flatMap fun v => [[44], v]) := by
        intro r
        induction r with
        | nil => intro _; exact ⟨(by intro v hv; cases hv), (by show 0 ≤ _; omega), (by show 0 ≤ 0; omega)⟩
        | cons s q ih =>
          intro hq
          have h1 := ((sg 44 (by decide)).app (tm s (hq s List.mem_cons_self))).app (ih fun x hx => hq x (List.mem_cons_of_mem _ hx))
          exact h1.mono (Nat.le_refl _) (by rw [List.length_cons]; omega) (Nat.le_refl _)
      exact ((tm t (hl t List.mem_cons_self)).app (hr r fun x hx => hl x (List.mem_cons_of_mem _ hx))).mono (Nat.le_refl _) (by rw [List.length_cons]; omega) (Nat.le_refl _)
  rw [atT_eq]
  have h8 := h.tl
  have h2 := h.nl
  exact ((((one a.1 h.nm h2).app (sg 40 (by decide))).app (tms a.2 h.tb)).app (sg 41 (by decide))).mono (Nat.le_refl _) (by omega) (Nat.le_refl _)
theorem AOk.atB {b : Nat} {a : Atom} (h : AOk b a) : AtB a := ⟨Nat.le_trans h.tl (by decide), fun t ht => (h.tb t ht).tmB⟩
variable {P : Program} {w : World} {K : PySem.W.Frag} {mg : Str → Option Value} {base : Heap} {CB fI : Addr}
def spPT (k : Nat) : Sp := fun vs H Q _ => ∃ (jv v : V) (J : Body) (p : Pl), vs = [jv, v] ∧ Rep H (joinD J) jv ∧ (∀ a ∈ J, AOk 2000 a) ∧ Rep H (planD p) v ∧ POk J.length p ∧ pdep p < k ∧ pw p ≤ 1000000 ∧ ∀ q H' tx, Same H H' → H q = none → H' q = some (.lst (sL tx)) → Ls 0 (pw p) (po p) tx → Q (.ref q) H'
abbrev sc_l_plan_texts_N : List Str := ["_law_join", "_law_plan", "_law_found", "_law_part"]
abbrev sc_l_plan_texts_P : List Str := ["_law_join", "_law_plan"]
abbrev sc_l_plan_texts_s : Scope := defScope s_l_plan_texts
theorem sc_l_plan_texts : FnScope sc_l_plan_texts_N sc_l_plan_texts_P sc_l_plan_texts_s := ⟨rfl, rfl, rfl, by decide +kernel, rfl, by decide +kernel, by decide +kernel⟩

theorem ok_plan_texts (T : Txt K mg) : ∀ k, Cal P w K mg base CX0 (k + 4) "_law_plan_texts" (spPT k)
| 0 => by
  refine cal0 T.f_l_plan_texts T.g_l_plan_texts sc_l_plan_texts (fun _ _ _ _ _ _ us hl => match us, hl with | [_, _], _ => rfl) (fun vs H Q E h => ?_) (fun cdv A outer s H vs Q E hr h => ?_)
  · obtain ⟨jv, v, J, p, rfl, _⟩ := h; rfl
  · obtain ⟨jv, v, J, p, rfl, _, _, _, _, h, _⟩ := h
    exact absurd h (Nat.not_lt_zero _)
| k + 1 => by
  have c_l_atom_texts : Cal P w K mg base CX0 3 "_law_atom_texts" spAT := ok_atom_texts T
  have c_l_plan_texts : Cal P w K mg base CX0 (k + 4) "_law_plan_texts" (spPT k) := ok_plan_texts T k
  refine cal0 T.f_l_plan_texts T.g_l_plan_texts sc_l_plan_texts (fun _ _ _ _ _ _ us hl => match us, hl with | [_, _], _ => rfl) (fun vs H Q E h => ?_) (fun cdv A outer s H vs Q E hr h => ?_)
  · obtain ⟨jv, v, J, p, rfl, _⟩ := h; rfl
  · obtain ⟨jv, v, J, p, rfl, hJ, hA, hv, hp, hdp, hpw, q⟩ := h
    obtain ⟨jp, je, jq, jxs, rfl, hj1, hj2, hj3⟩ := rep_join hJ
    refine ⟨_, (pss_cons (ps_if (pt_cmpR op_eq (pe_ix ix_tup (pv 1) pe_int (fun _ _ => rfl)) pe_str (nomark _)) (pss_one (ps_ret (pe_c c_l_atom_texts hr (pa_cons (pe_ix ix_tup (pe_ix ix_tup (pv 0) pe_int (fun _ _ => rfl)) (pe_ix ix_tup (pv 1) pe_int (fun _ _ => rfl)) (fun _ _ => rfl)) pa_nil) (by omega)))) pss_nil)
      (pss_cons (ps_if (pt_cmpR op_eq (pe_ix ix_tup (pv 1) pe_int (fun _ _ => rfl)) pe_str (nomark _)) (pss_one (ps_ret (pe_op op_cat (pe_lst (pa_cons pe_str (pa_cons (pe_ix ix_tup (pv 1) pe_int (fun _ _ => rfl)) pa_nil))) (pe_c c_l_plan_texts hr (pa_cons (pv 0) (pa_cons (pe_ix ix_tup (pv 1) pe_int (fun _ _ => rfl)) pa_nil)) (by omega))))) pss_nil)
      (pss_cons (ps_set (i := 2) sc_l_plan_texts.nd rfl (by first | exact Or.inl rfl | exact Or.inr rfl) (pe_lst pa_nil))
      (pss_cons (ps_for PassesOwn.never rfl (pi_tup (pe_ix ix_tup (pv 1) pe_int (fun _ _ => rfl))) (pg_name (i := 3) sc_l_plan_texts.nd rfl (by first | exact Or.inl rfl | exact Or.inr rfl)) (pss_one (ps_set (i := 2) sc_l_plan_texts.nd rfl (by first | exact Or.inl rfl | exact Or.inr rfl) (pe_op op_cat (pe_op op_cat (pv 2) (pe_lst (pa_cons pe_str pa_nil))) (pe_c c_l_plan_texts hr (pa_cons (pv 0) (pa_cons (pv 3) pa_nil)) (by omega))))))
      (pss_one (ps_ret (pe_op op_cat (pe_op op_cat (pe_lst (pa_cons pe_str pa_nil)) (pe_slice sl_list (pv 2) (po_some pe_int) po_none)) (pe_lst (pa_cons pe_str pa_nil))))))))), ?_⟩
    cases p with
    | scan i =>
      obtain ⟨va, vxs, rfl, h1, x1, r1, rfl, e1, x2, r2, rfl, e2, e3⟩ := hv
      obtain rfl : x1 = _ := e1
      obtain rfl : x2 = _ := e2
      obtain rfl : r2 = _ := e3
      have hi : i < J.length := hp
      obtain ⟨av, hav, hav2⟩ := reps_get hj3 (d := atomD J[i]) (i := i) (by rw [List.getElem?_map, List.getElem?_eq_getElem hi]; rfl)
      have ha := hA J[i] (List.getElem_mem hi)
      wtm_at "rd"
      refine ⟨_, SqT.of h1, _, rfl, rfl, ?_⟩
      refine ite2 (fun _ => ?_) (fun h => absurd rfl h)
      refine ⟨_, SqT.of hj1, _, rfl, _, SqT.of h1, _, rfl, jq, rfl, _, _, rfl, SqT.of hj2, _, atI_nat hav, J[i], av, rfl, hav2, ha.atB, fun pl H' s1 h0 h2 => ?_⟩
      exact q pl H' _ s1 h0 h2 (Ls.atom ha)
    | proj x p =>
      obtain ⟨va, vxs, rfl, h1, x1, r1, rfl, e1, x2, r2, rfl, e2, x3, r3, rfl, e3, e4⟩ := hv
      obtain rfl : x1 = _ := e1
      obtain rfl : x2 = _ := e2
      obtain rfl : r3 = _ := e4
      have hdp' : pdep p < k := by
        have : pdep (.proj x p) = pdep p + 1 := by simp [pdep]
        omega
      have hpwe : pw (.proj x p) = pw p + 410 := by simp [pw]
      have hpoe : po (.proj x p) = po p + 1 := by simp [po]
      obtain ⟨hx1, hx2, hp'⟩ : isWord x = true ∧ x.length ≤ 400 ∧ POk J.length p := by simpa [POk] using hp
      wtm_at "rd"
      refine ⟨_, SqT.of h1, _, rfl, rfl, ?_⟩
      refine ite2 (fun h => absurd (S_inj (by injection h)) (by decide)) (fun _ => ?_)
      refine ⟨_, SqT.of h1, _, rfl, rfl, ?_⟩
      refine ite2 (fun _ => ?_) (fun h => absurd rfl h)
      refine ⟨_, SqT.of h1, _, rfl, fun p1 hp1 => ?_⟩
      have s1 := same_new hp1 (.lst (sL [[33], x]))
      have h11 : upd H p1 (.lst (sL [[33], x])) p1 = some (.lst (sL [[33], x])) := upd_same
      refine ⟨_, SqT.of (s1 _ _ h1), _, rfl, ?_⟩
      refine ⟨_, _, J, p, rfl, hJ.kt (KT.same s1) _ _, hA, e3.kt (KT.same s1) _ _, hp', hdp', by omega, fun p2 H2 tx s2 hp2 hp2' hls => ?_⟩
      have hwl := wt_len tx
      have := hls.wt
      wtm_at "rd"
      refine ⟨_, s2 _ _ h11, _, hp2', le_line (by simp; omega), fun p3 hp3 => ?_⟩
      have s12 := s1.trans s2
      refine q p3 _ ([[33], x] ++ tx) (s12.trans (same_new hp3 _)) ?_ (by rw [upd_same]; simp) ?_
      · cases e : H p3 with
        | none => rfl
        | some o => rw [s12 _ _ e] at hp3; cases hp3
      · have l1 : Ls 0 410 1 [[33], x] := by
          refine ⟨fun u hu => ?_, ?_, ?_⟩
          · simp at hu
            rcases hu with rfl | rfl
            · exact Pc.one 33
            · exact Pc.word hx1 (by omega)
          · show 1 + 3 + (x.length + 3 + 0) ≤ _; omega
          · show oc [33] + (oc x + 0) ≤ 1
            rw [oc_word hx1]; decide
        exact (l1.app hls).mono (Nat.le_refl _) (by omega) (by omega)
    | join ps =>
      obtain ⟨va, vxs, rfl, h1, x1, r1, rfl, e1, x2, r2, rfl, ⟨pa, pxs, rfl, h2, h3⟩, e3⟩ := hv
      obtain rfl : x1 = _ := e1
      obtain rfl : r2 = _ := e3
      have hpwe : pw (.join ps) = pws ps + 8 := by simp [pw]
      have hpoe : po (.join ps) = pos ps + 1 := by simp [po]
      have hpde : pdep (.join ps) = pdeps ps + 1 := by simp [pdep]
      have hps : POks J.length ps := by simpa [POk] using hp
      have hpl : pxs.length = ps.length := by rw [reps_len h3, plansD_len]
      have hg : ∀ {i : Nat} {v : V}, pxs[i]? = some v → ∃ p, ps[i]? = some p ∧ Rep H (planD p) v := fun {i v} e => by
        obtain ⟨d, q1, q2⟩ := reps_of h3 e
        clear hps hpde hpoe hpwe hpl h3 h2 h1 hdp hpw hp q e
        induction ps generalizing i with
        | nil => simp [plansD] at q1
        | cons p r ih =>
          cases i with
          | zero => simp [plansD] at q1; exact ⟨p, rfl, by rw [q1]; exact q2⟩
          | succ i => simp [plansD] at q1; simpa using ih q1
      wtm_at "rd"
      refine ⟨_, SqT.of h1, _, rfl, rfl, ?_⟩
      refine ite2 (fun h => absurd (S_inj (by injection h)) (by decide)) (fun _ => ?_)
      refine ⟨_, SqT.of h1, _, rfl, rfl, ?_⟩
      refine ite2 (fun h => absurd (S_inj (by injection h)) (by decide)) (fun _ => ?_)
      intro fp0 hfp0
      have s1 := same_new hfp0 (.lst [])
      refine ⟨_, SqT.of (s1 _ _ h1), _, rfl, pa, rfl, ⟨_, SqT.of (s1 _ _ h2)⟩, ?_⟩
      have hsplit : ∀ i, pws (ps.take i) ≤ pws ps := fun i => by
        have := pws_app (ps.take i) (ps.drop i)
        rw [List.take_append_drop] at this
        omega
      obtain ⟨Pv, hPv⟩ := opq3 fun i σ H' => ∃ (fp : Addr) (fx : List (List Nat)) (u3 : Option V), Same H H' ∧ H fp = none ∧ H' fp = some (.lst (sL fx)) ∧ Ls 0 (pws (ps.take i)) (pos (ps.take i)) fx ∧ σ = [some (.ref jp), some (.ref va), some (.ref fp), u3]
      refine forb (walk_tup (xs := pxs)) Pv ((hPv _ _ _).mpr ⟨fp0, [], none, s1, hfp0, upd_same, ⟨(by intro u hu; cases hu), (by show 0 ≤ _; omega), (by show 0 ≤ _; omega)⟩, rfl⟩) (fun i σ H' pv => ?_) (fun i x σ H' H5 hi pv y => ?_) (fun σ H' pv => ?_)
      · obtain ⟨_, _, _, h, _⟩ := (hPv _ _ _).mp pv
        exact SqT.of (h _ _ h2)
      · obtain ⟨fp, fx, u3, s2, hfp, hfx, hls, rfl⟩ := (hPv _ _ _).mp pv
        obtain ⟨rfl, hx⟩ := y
        obtain ⟨p, hp1, hp2⟩ := hg hx
        have hmem := List.mem_of_getElem? hp1
        have htk : ps.take (i + 1) = ps.take i ++ [p] := by
          obtain ⟨hi2, e⟩ := List.getElem?_eq_some_iff.mp hp1
          rw [← e, List.take_append_getElem hi2]
        have hpd := pdeps_mem hmem
        have hpwm := pws_mem hmem
        have hwl := wt_len fx
        have hw1 := hls.wt
        have hs1 := hsplit i
        wtm_at "rd"
        intro p2 hp2'
        have s3 := same_new hp2' (.lst (sL [[42]]))
        refine ⟨_, s3 _ _ hfx, _, upd_same, le_line (by simp; omega), fun p3 hp3 => ?_⟩
        have s4 := same_new hp3 (.lst (sL fx ++ sL [[42]]))
        have s24 := s2.trans (s3.trans s4)
        refine ⟨_, x, J, p, rfl, hJ.kt (KT.same s24) _ _, hA, hp2.kt (KT.same s24) _ _, hps.mem hmem, by omega, by omega, fun p5 H6 tx s5 hp5 hp5' htx => ?_⟩
        have hwl2 := wt_len tx
        have hw2 := htx.wt
        wtm_at "rd"
        refine ⟨_, s5 _ _ upd_same, _, hp5', le_line (by simp; omega), fun p7 hp7 => ?_⟩
        have s6 := s24.trans s5
        refine (hPv _ _ _).mpr ⟨p7, fx ++ [[42]] ++ tx, _, s6.trans (same_new hp7 _), ?_, by rw [upd_same]; simp, ?_, rfl⟩
        · cases e : H p7 with
          | none => rfl
          | some o => rw [s6 _ _ e] at hp7; cases hp7
        · have l1 : Ls 0 4 0 [[42]] := ⟨fun u hu => by rw [List.mem_singleton.mp hu]; exact Pc.one 42, by show 1 + 3 + 0 ≤ 4; omega, by show oc [42] + 0 ≤ 0; decide⟩
          have e1 : pws (ps.take (i + 1)) = pws (ps.take i) + (pw p + 4) := by rw [htk, pws_app]; simp [pws]
          have e2 : pos (ps.take (i + 1)) = pos (ps.take i) + po p := by rw [htk, pos_app]; simp [pos]
          rw [e1, e2]
          exact ((hls.app l1).app htx).mono (Nat.le_refl _) (by omega) (by omega)
      · obtain ⟨fp, fx, u3, s2, hfp, hfx, hls, rfl⟩ := (hPv _ _ _).mp pv
        rw [hpl, List.take_length] at hls
        have hwl := wt_len fx
        have hw1 := hls.wt
        wtm_at "rd"
        intro p2 hp2
        have s3 := same_new hp2 (.lst (sL [[91]]))
        refine ⟨_, SqL.of (s3 _ _ hfx), fun p3 hp3 => ?_⟩
        have s4 := same_new hp3 (.lst (cutV (sL fx) (some 1) none))
        have hcut : cutV (sL fx) (some 1) none = sL fx.tail := by
          cases fx with
          | nil => rfl
          | cons u r => exact cut_tail u r
        have htl : fx.tail.length ≤ fx.length := by rw [List.length_tail]; omega
        refine ⟨_, s4 _ _ upd_same, _, upd_same, le_line (by rw [hcut]; simp; omega), fun p4 hp4 p5 hp5 => ?_⟩
        have s5 := same_new hp4 (.lst (sL [[91]] ++ cutV (sL fx) (some 1) none))
        have s6 := same_new hp5 (.lst (sL [[93]]))
        refine ⟨_, s6 _ _ upd_same, _, upd_same, le_line (by rw [hcut]; simp; omega), fun p7 hp7 => ?_⟩
        have sall := s2.trans (s3.trans (s4.trans (s5.trans s6)))
        refine q p7 _ ([[91]] ++ fx.tail ++ [[93]]) (sall.trans (same_new hp7 _)) ?_ (by rw [upd_same, hcut]; simp) ?_
        · exact same_none sall hp7
        · have l1 : Ls 0 4 1 [[91]] := ⟨fun u hu => by rw [List.mem_singleton.mp hu]; exact Pc.one 91, by show 1 + 3 + 0 ≤ 4; omega, by show oc [91] + 0 ≤ 1; decide⟩
          have l2 : Ls 0 4 0 [[93]] := ⟨fun u hu => by rw [List.mem_singleton.mp hu]; exact Pc.one 93, by show 1 + 3 + 0 ≤ 4; omega, by show oc [93] + 0 ≤ 0; decide⟩
          exact ((l1.app (hls.sub (List.tail_sublist fx))).app l2).mono (Nat.le_refl _) (by omega) (by omega)
end
end K26

end
section
set_option linter.all false
set_option maxRecDepth 100000
set_option maxHeartbeats 4000000
namespace K26
open PySem PySem.Spec PyProof.Rows L2
open SX (S S_len S_cat S_inj)
open PySem.NumText
local macro_rules | `(tactic| wtm_at "rd") => `(tactic| try simp only [tSeq, tAsg, tVar, tC, gName, tRet, tRetN, tIfS, tNext, tDrop, tOp, tUn, rI0, rI, rU, tTest, tB, tAnd, tOr, tNot, tAndV, tOrV, tNotV, tIf, tCB, tCons, tNil, tTup, tLst, tCall, tSl, tPart, tNoPart, tBM, tBM0, gTup, gCons, gNil, gSub, tAug, ipI, rEq, rNe, sc_ii, sc_ss, sc_bb, sc_nn, sc_is, sc_si, sc_ns, sc_sn, sc_ni, sc_in, z0, z1, z2, z3, z4, z5, if_true, if_false, Bool.not_eq_true', decide_eq_false_iff_not, rIxS, rSlS, rSlL, tAugS, rGetL, cast1, rIxL, rIxT, rSetL, rAppend, rPop, rPopAt, rReverse, rCat, tYes, iRng1, iRng2, tMkBad, rIn, tFld, sFld, sFldAug, rAdd, tMeth, tMake, tCallS, tBadF, tM1, iList, iTup, iEnum, iEnumT, iStr, tBreak, C8.tCut, tFor_eq, tLc_eq, wipe_1,
  L2.start, List.map_cons, List.map_nil, List.cons_append, List.nil_append, List.append_nil, List.length_cons, List.length_nil, Nat.reduceAdd, Nat.reduceSub, List.replicate_succ, List.replicate_zero,
  List.getElem?_cons_succ, List.getElem?_cons_zero, List.set_cons_succ, List.set_cons_zero, Option.some.injEq, V.int.injEq, V.str.injEq, V.ref.injEq, V.bl.injEq, List.cons.injEq, and_assoc, and_true, true_and, exists_eq_left', exists_eq_left, exists_and_left, exists_and_right, exists_eq, decide_eq_true_eq, reduceCtorEq, false_and, and_false, exists_false, false_or, or_false, S_len, S_eq, k0, k1, k2, k3, k4, k5, k6, k7, k8, k9, k10, k11, k12, k13, k14, k15, k16, k17, k18, k19, k20, k21, k22, k23, k24, k25, k26, k27, k28, k29, k30, k31, k32, k33, k34, k35, k36, k37, k38, k39, k40, k41, k42, k43, k44, k45, k46, k47, k48, k49, k50, k51, k52, k53, Nat.zero_add])

section
variable {P : Program} {w : World} {K : PySem.W.Frag} {mg : Str → Option Value} {base : Heap} {CB fI : Addr}
def Wd : Nat → Nat
  | 0 => 9000
  | d + 1 => 3 * (Wd d + 4) + 418
def Od : Nat → Nat
  | 0 => 0
  | d + 1 => 3 * Od d + 1
structure PB (n d : Nat) (p : Pl) : Prop where
  ok : POk n p
  dep : pdep p ≤ d
  wt : pw p ≤ Wd d
  op : po p ≤ Od d
def spAny (k : Nat) : Sp := fun vs H Q _ => ∃ (dp np : Addr) (jv : V) (J : Body) (ns : List (List Nat)) (d : Nat), vs = [.ref dp, jv, .ref np, .int (d : Int)] ∧ d < k ∧ Dr dp H ∧ Rep H (joinD J) jv ∧ J ≠ [] ∧ H np = some (.lst (sL ns)) ∧ ns ≠ [] ∧ WsOk 400 ns ∧ np ≠ dp ∧
  ∀ p v H', PB J.length d p → Kp dp H H' → Dr dp H' → Rep H' (planD p) v → Q v H'
theorem Wd_mono (d : Nat) : 9000 ≤ Wd d := by
  induction d with
  | zero => exact Nat.le_refl _
  | succ d ih => show 9000 ≤ 3 * (Wd d + 4) + 418; omega
theorem PB.scan {n d i : Nat} (h : i < n) : PB n d (.scan i) := ⟨h, Nat.zero_le _, Wd_mono d, Nat.zero_le _⟩
theorem rep_scan {H : Hp} {p : Addr} {i : Nat} (h : H p = some (.tup [.str (S [115, 99, 97, 110]), .int (i : Int)])) : Rep H (planD (.scan i)) (.ref p) := ⟨p, _, rfl, h, _, _, rfl, rfl, _, _, rfl, rfl, rfl⟩
abbrev sc_l_any_plan_N : List Str := ["_law_draws_here", "_law_join", "_law_names", "_law_depth", "_law_kind", "_law_parts", "_law_k"]
abbrev sc_l_any_plan_P : List Str := ["_law_draws_here", "_law_join", "_law_names", "_law_depth"]
abbrev sc_l_any_plan_s : Scope := defScope s_l_any_plan
theorem sc_l_any_plan : FnScope sc_l_any_plan_N sc_l_any_plan_P sc_l_any_plan_s := ⟨rfl, rfl, rfl, by decide +kernel, rfl, by decide +kernel, by decide +kernel⟩

theorem ok_any_plan (T : Txt K mg) : ∀ k, Cal P w K mg base CX0 (k + 3) "_law_any_plan" (spAny k)
| 0 => by
  refine cal0 T.f_l_any_plan T.g_l_any_plan sc_l_any_plan (fun _ _ _ _ _ _ us hl => match us, hl with | [_, _, _, _], _ => rfl) (fun vs H Q E h => ?_) (fun cdv A outer s H vs Q E hr h => ?_)
  · obtain ⟨dp, np, jv, J, ns, d, rfl, _⟩ := h; rfl
  · obtain ⟨dp, np, jv, J, ns, d, rfl, h, _⟩ := h
    exact absurd h (Nat.not_lt_zero _)
| k + 1 => by
  have c_l_take : Cal P w K mg base CX0 1 "_law_take" spTakeN := ok_takeN T
  have c_l_pick : Cal P w K mg base CX0 2 "_law_pick" (spPick K) := ok_pick T
  have c_l_any_plan : Cal P w K mg base CX0 (k + 3) "_law_any_plan" (spAny k) := ok_any_plan T k
  refine cal0 T.f_l_any_plan T.g_l_any_plan sc_l_any_plan (fun _ _ _ _ _ _ us hl => match us, hl with | [_, _, _, _], _ => rfl) (fun vs H Q E h => ?_) (fun cdv A outer s H vs Q E hr h => ?_)
  · obtain ⟨dp, np, jv, J, ns, d, rfl, _⟩ := h; rfl
  · obtain ⟨dp, np, jv, J, ns, d, rfl, hdk, hd, hJ, hJ0, hn, hn0, hno, hnd, q⟩ := h
    obtain ⟨jp, je, jq, jxs, rfl, hj1, hj2, hj3⟩ := rep_join hJ
    have hjl : jxs.length = J.length := by rw [reps_len hj3, List.length_map]
    have hJp := len_pos hJ0
    refine ⟨_, (pss_cons (ps_set (i := 4) sc_l_any_plan.nd rfl (by first | exact Or.inl rfl | exact Or.inr rfl) (pe_c c_l_take hr (pa_cons (pv 0) (pa_cons pe_int pa_nil)) (by omega)))
      (pss_cons (ps_if (PW.pt (pw_or (pt_cmpR op_eq (pv 3) pe_int (nomark _)) (pw_or1 (pt_cmpR op_eq (pv 4) pe_int (nomark _))))) (pss_one (ps_ret (pe_tup (pa_cons pe_str (pa_cons (pe_c c_l_take hr (pa_cons (pv 0) (pa_cons (pe_callB call_len_seq (by rfl) T.b_len boot_len (pa_cons (pe_ix ix_tup (pv 1) pe_int (fun _ _ => rfl)) pa_nil)) pa_nil)) (by omega)) pa_nil))))) pss_nil)
      (pss_cons (ps_if (pt_cmpR op_lt (pv 4) pe_int (nomark _)) (pss_one (ps_ret (pe_tup (pa_cons pe_str (pa_cons (pe_c c_l_pick hr (pa_cons (pv 0) (pa_cons (pv 2) pa_nil)) (by omega)) (pa_cons (pe_c c_l_any_plan hr (pa_cons (pv 0) (pa_cons (pv 1) (pa_cons (pv 2) (pa_cons (pe_op op_sub (pv 3) pe_int) pa_nil)))) (by omega)) pa_nil)))))) pss_nil)
      (pss_cons (ps_setLc (i := 5) (own := [("_law_k", 6)]) (g := gName 6) (tt := tYes) rfl sc_l_any_plan.nd rfl rfl (sw_true rfl rfl rfl (by decide +kernel)) (pi_range1 (by rfl) T.b_range (pa_cons (pe_ix ix_list (pe_lst (pa_cons pe_int (pa_cons pe_int (pa_cons pe_int pa_nil)))) (pe_c c_l_take hr (pa_cons (pv 0) (pa_cons pe_int pa_nil)) (by omega)) (fun _ _ => rfl)) pa_nil)) (blkOk_by (own := [("_law_k", 6)]) (N := sc_l_any_plan_N) (sc := sc_l_any_plan_s) (by decide +kernel)) (fun _ _ _ _ _ => pg_name (i := 6) sc_l_any_plan.nd rfl (Or.inl rfl)) (fun _ _ _ _ _ => pts_nil) (fun _ _ _ _ _ => (pe_c c_l_any_plan hr (pa_cons (pv 0) (pa_cons (pv 1) (pa_cons (pv 2) (pa_cons (pe_op op_sub (pv 3) pe_int) pa_nil)))) (by omega))))
      (pss_one (ps_ret (pe_tup (pa_cons pe_str (pa_cons (pe_callTy call_tuple_of (by rfl) T.b_tuple boot_tuple_ (pa_cons (pv 5) pa_nil)) pa_nil))))))))), ?_⟩
    wtm_at "rd"
    refine ⟨dp, 5, rfl, by decide, hd, fun r H1 hr1 k1 hd1 => ?_⟩
    have kt1 := KT.dr k1 hd
    wtm_at "rd"
    have scan : ∃ x, SqT K H1 jp x ∧ ∃ x_1, atI x 1 = some x_1 ∧ ∃ p, x_1 = V.ref p ∧ ∃ x, (SqL K H1 p x ∨ SqT K H1 p x) ∧ spTakeN [V.ref dp, V.int (x.length : Int)] H1 (fun x H1 => ∀ (p : Addr), H1 p = none → Q (V.ref p) (upd H1 p (HO.tup [V.str (S [115, 99, 97, 110]), x]))) E0 := by
      refine ⟨_, SqT.of (kt1 _ _ hj1), _, rfl, jq, rfl, _, .inr (SqT.of (kt1 _ _ hj2)), dp, jxs.length, rfl, by omega, hd1, fun i H2 hi k2 hd2 p hp => ?_⟩
      exact q (.scan i) _ _ (PB.scan (by omega)) ((k1.trans k2).new hp) (hd2.upd_ne' (hd2.ne hp)) (rep_scan upd_same)
    refine ite2 (fun _ => scan) (fun hd0 => ?_)
    refine ite2 (fun _ => scan) (fun _ => ite2 (fun _ => ?_) (fun _ => ?_))
    · have hne : sL ns ≠ [] := fun z => hn0 (by simpa using z)
      refine ⟨dp, np, _, rfl, k1 _ _ hnd hn, hnd, hne, hd1, fun v H2 hv k2 hd2 => ?_⟩
      obtain ⟨u, hu, rfl⟩ := List.mem_map.mp hv
      have hk12 := k1.trans k2
      wtm_at "rd"
      obtain ⟨d', rfl⟩ : ∃ d', d = d' + 1 := ⟨d - 1, by omega⟩
      rw [show (((d' + 1 : Nat) : Int) - 1) = (d' : Int) by omega]
      refine ⟨dp, np, _, J, ns, d', rfl, by omega, hd2, hJ.kt (KT.dr hk12 hd) _ _, hJ0, hk12 _ _ hnd hn, hn0, hno, hnd, fun p v H3 hp k3 hd3 hv => ?_⟩
      wtm_at "rd"
      intro pp hpp
      have s := same_new hpp (.tup [.str (S [112, 114, 111, 106, 101, 99, 116]), .str (S u), v])
      refine q (.proj u p) _ _ ⟨?_, ?_, ?_, ?_⟩ ((hk12.trans k3).new hpp) (hd3.upd_ne' (hd3.ne hpp)) ⟨pp, _, rfl, upd_same, _, _, rfl, rfl, _, _, rfl, rfl, _, _, rfl, hv.kt (KT.same s) _ _, rfl⟩
      · have := hno u hu
        simp [POk, this.1, this.2, hp.ok]
      · have := hp.dep
        simp [pdep]; exact this
      · have h1 := hp.wt
        have h2 : pw (.proj u p) = pw p + 410 := by simp [pw]
        have h3 : Wd (d' + 1) = 3 * (Wd d' + 4) + 418 := rfl
        omega
      · have h1 := hp.op
        have h2 : po (.proj u p) = po p + 1 := by simp [po]
        have h3 : Od (d' + 1) = 3 * Od d' + 1 := rfl
        omega
    · intro lp hlp
      have hld := hd1.ne hlp
      refine ⟨dp, 3, rfl, by decide, hd1.upd_ne' hld, fun r2 H2 hr2 k2 hd2 => ?_⟩
      wtm_at "rd"
      obtain ⟨j, hj, hat⟩ := lit_at (ks := [2, 3, 2]) hr2
      have hj' : j ≤ 3 := by simp at hj; omega
      refine ⟨_, SqL.of (k2 _ _ hld upd_same), _, atI_nat hat, _, rfl, by omega, by omega, ?_⟩
      rw [Int.toNat_natCast]
      have k12 : Kp dp H H2 := (k1.new hlp).trans k2
      obtain ⟨d', rfl⟩ : ∃ d', d = d' + 1 := ⟨d - 1, by omega⟩
      obtain ⟨Pw, hPw⟩ : ∃ Pw : Addr → Nat → Hp → Prop, ∀ D i H', Pw D i H' ↔ Kp dp H2 H' ∧ Dr dp H' ∧ ∃ (ps : List Pl) (xs : List V), ps.length = i ∧ (∀ p ∈ ps, PB J.length d' p) ∧ H' D = some (.lst xs) ∧ Reps H' (plansD ps) xs := ⟨_, fun _ _ _ => Iff.rfl⟩
      refine lcb (walk_range (lo := 0) (n := j)) Pw (fun D hD => (hPw _ _ _).mpr ⟨(Kp.refl dp H2).new hD, hd2.upd_ne' (hd2.ne hD), [], [], rfl, by simp, upd_same, rfl⟩) (fun _ _ _ _ _ => trivial) (fun D i x H' H5 hD hi e y => ?_) (fun D H' hD e => ?_)
      · obtain ⟨k5, hd5, ps, xs, hpl, hpb, hDx, hrp⟩ := (hPw _ _ _).mp e
        obtain ⟨rfl, rfl⟩ := y
        have hDd := hd2.ne hD
        have hxl := reps_len hrp
        rw [plansD_len] at hxl
        have k15 := k12.trans k5
        wtm_at "rd"
        rw [show (((d' + 1 : Nat) : Int) - 1) = (d' : Int) by omega]
        refine ⟨dp, np, _, J, ns, d', rfl, by omega, hd5, hJ.kt (KT.dr k15 hd) _ _, hJ0, k15 _ _ hnd hn, hn0, hno, hnd, fun p v H6 hp k6 hd6 hv => ?_⟩
        have hD6 := k6 _ _ hDd hDx
        have kt := (KT.refl H6).upd (x := D) (u := .lst (xs ++ [v])) hD6 fun _ z => by cases z
        refine ⟨xs, hD6, lt_line (by omega), (hPw _ _ _).mpr ⟨(k5.trans k6).mutn hD, hd6.upd_ne' hDd, ps ++ [p], xs ++ [v], by simp <;> omega, ?_, upd_same, ?_⟩⟩
        · intro s hs
          rcases List.mem_append.mp hs with hs | hs
          · exact hpb s hs
          · rw [List.mem_singleton.mp hs]; exact hp
        · rw [plansD_app]
          exact reps_app (hrp.kt ((KT.dr k6 hd5).trans kt) _ _) ⟨v, [], rfl, hv.kt kt _ _, rfl⟩
      · obtain ⟨k5, hd5, ps, xs, hpl, hpb, hDx, hrp⟩ := (hPw _ _ _).mp e
        wtm_at "rd"
        refine ⟨_, .inl ⟨SqL.of hDx, fun l hl p hp => ?_⟩⟩
        have s2 := (same_new hl (.tup xs)).trans (same_new hp (.tup [.str (S [106, 111, 105, 110]), .ref l]))
        have sum : ∀ ps : List Pl, (∀ p ∈ ps, PB J.length d' p) → POks J.length ps ∧ pdeps ps ≤ d' ∧ pws ps ≤ ps.length * (Wd d' + 4) ∧ pos ps ≤ ps.length * Od d' := by
          intro ps
          induction ps with
          | nil => intro _; simp [POks, pdeps, pws, pos]
          | cons p r ih =>
            intro h
            obtain ⟨a1, a2, a3, a4⟩ := ih fun x hx => h x (List.mem_cons_of_mem _ hx)
            have hp := h p List.mem_cons_self
            have b1 := hp.dep
            have b2 := hp.wt
            have b3 := hp.op
            refine ⟨⟨hp.ok, a1⟩, ?_, ?_, ?_⟩
            · show max (pdep p) (pdeps r) ≤ d'; omega
            · show pw p + 4 + pws r ≤ _; rw [List.length_cons, Nat.succ_mul]; omega
            · show po p + pos r ≤ _; rw [List.length_cons, Nat.succ_mul]; omega
        obtain ⟨a1, a2, a3, a4⟩ := sum ps hpb
        have m1 : ps.length * (Wd d' + 4) ≤ 3 * (Wd d' + 4) := Nat.mul_le_mul_right _ (by omega)
        have m2 : ps.length * Od d' ≤ 3 * Od d' := Nat.mul_le_mul_right _ (by omega)
        refine q (.join ps) _ _ ⟨by simpa [POk] using a1, by simp [pdep]; exact a2, ?_, ?_⟩ (k12.trans (k5.trans (Kp.same s2))) ((hd5.upd_ne' (hd5.ne hl)).upd_ne' ((hd5.upd_ne' (hd5.ne hl)).ne hp)) ⟨p, _, rfl, upd_same, _, _, rfl, rfl, _, _, rfl, ⟨l, xs, rfl, (same_new hp _) _ _ upd_same, hrp.kt (KT.same s2) _ _⟩, rfl⟩
        · have h2 : pw (.join ps) = pws ps + 8 := by simp [pw]
          have h3 : Wd (d' + 1) = 3 * (Wd d' + 4) + 418 := rfl
          omega
        · have h2 : po (.join ps) = pos ps + 1 := by simp [po]
          have h3 : Od (d' + 1) = 3 * Od d' + 1 := rfl
          omega
end
end K26

end
section
set_option linter.all false
set_option maxRecDepth 100000
set_option maxHeartbeats 4000000
namespace K26
open PySem PySem.Spec PyProof.Rows L2
open SX (S S_len S_cat S_inj)
open PySem.NumText
local macro_rules | `(tactic| wtm_at "rd") => `(tactic| try simp only [tSeq, tAsg, tVar, tC, gName, tRet, tRetN, tIfS, tNext, tDrop, tOp, tUn, rI0, rI, rU, tTest, tB, tAnd, tOr, tNot, tAndV, tOrV, tNotV, tIf, tCB, tCons, tNil, tTup, tLst, tCall, tSl, tPart, tNoPart, tBM, tBM0, gTup, gCons, gNil, gSub, tAug, ipI, rEq, rNe, sc_ii, sc_ss, sc_bb, sc_nn, sc_is, sc_si, sc_ns, sc_sn, sc_ni, sc_in, z0, z1, z2, z3, z4, z5, if_true, if_false, Bool.not_eq_true', decide_eq_false_iff_not, rIxS, rSlS, rSlL, tAugS, rGetL, cast1, rIxL, rIxT, rSetL, rAppend, rPop, rPopAt, rReverse, rCat, tYes, iRng1, iRng2, tMkBad, rIn, tFld, sFld, sFldAug, rAdd, tMeth, tMake, tCallS, tBadF, tM1, iList, iTup, iEnum, iEnumT, iStr, tBreak, C8.tCut, tFor_eq, tLc_eq, wipe_1,
  L2.start, List.map_cons, List.map_nil, List.cons_append, List.nil_append, List.append_nil, List.length_cons, List.length_nil, Nat.reduceAdd, Nat.reduceSub, List.replicate_succ, List.replicate_zero,
  List.getElem?_cons_succ, List.getElem?_cons_zero, List.set_cons_succ, List.set_cons_zero, Option.some.injEq, V.int.injEq, V.str.injEq, V.ref.injEq, V.bl.injEq, List.cons.injEq, and_assoc, and_true, true_and, exists_eq_left', exists_eq_left, exists_and_left, exists_and_right, exists_eq, decide_eq_true_eq, reduceCtorEq, false_and, and_false, exists_false, false_or, or_false, S_len, S_eq, k0, k1, k2, k3, k4, k5, k6, k7, k8, k9, k10, k11, k12, k13, k14, k15, k16, k17, k18, k19, k20, k21, k22, k23, k24, k25, k26, k27, k28, k29, k30, k31, k32, k33, k34, k35, k36, k37, k38, k39, k40, k41, k42, k43, k44, k45, k46, k47, k48, k49, k50, k51, k52, k53, Nat.zero_add])

section
theorem reps_take {H : Hp} : ∀ {ds : List D} {xs : List V} (i : Nat), Reps H ds xs → Reps H (ds.take i) (xs.take i)
  | [], xs, i, h => by have h : xs = [] := h; subst h; simp; rfl
  | d :: ds, _, 0, h => rfl
  | d :: ds, _, i + 1, h => by
    obtain ⟨x, r, rfl, h1, h2⟩ := h
    exact ⟨x, _, rfl, h1, reps_take i h2⟩
theorem reps_drop {H : Hp} : ∀ {ds : List D} {xs : List V} (i : Nat), Reps H ds xs → Reps H (ds.drop i) (xs.drop i)
  | [], xs, i, h => by have h : xs = [] := h; subst h; simp; rfl
  | d :: ds, _, 0, h => h
  | d :: ds, _, i + 1, h => by
    obtain ⟨x, r, rfl, h1, h2⟩ := h
    exact reps_drop i h2
variable {P : Program} {w : World} {K : PySem.W.Frag} {mg : Str → Option Value} {base : Heap} {CB fI : Addr}
theorem JOk.mono {b m b' m' : Nat} {J : Body} (h : JOk b m J) (hb : b ≤ b') (hm : m ≤ m') : JOk b' m' J := ⟨h.ne, Nat.le_trans h.len hm, fun a ha => let z := h.at_ a ha; ⟨z.nm, Nat.le_trans z.nl hb, z.tl, z.tb⟩⟩
def spMore : Sp := fun vs H Q _ => ∃ (dp wp : Addr) (jv : V) (J : Body), vs = [.ref dp, .ref wp, jv] ∧ Dr dp H ∧ WR dp H wp ∧ Rep H (joinD J) jv ∧ JOk 400 4 J ∧ ∀ J' v H', JOk 2000 8 J' → Kp dp H H' → Dr dp H' → Rep H' (joinD J') v → Q v H'
abbrev sc_l_more_atoms_N : List Str := ["_law_draws_here", "_law_world_here", "_law_join", "_law_body", "_law_base", "_law_table", "_law_k", "_law_terms", "_law_j"]
abbrev sc_l_more_atoms_P : List Str := ["_law_draws_here", "_law_world_here", "_law_join"]
abbrev sc_l_more_atoms_s : Scope := defScope s_l_more_atoms
theorem sc_l_more_atoms : FnScope sc_l_more_atoms_N sc_l_more_atoms_P sc_l_more_atoms_s := ⟨rfl, rfl, rfl, by decide +kernel, rfl, by decide +kernel, by decide +kernel⟩

theorem ok_more_atoms (T : Txt K mg) : Cal P w K mg base CX0 4 "_law_more_atoms" spMore := by
  have c_l_take : Cal P w K mg base CX0 1 "_law_take" spTakeN := ok_takeN T
  have c_l_term : Cal P w K mg base CX0 3 "_law_term" spTm := ok_tm T
  refine cal0 T.f_l_more_atoms T.g_l_more_atoms sc_l_more_atoms (fun _ _ _ _ _ _ us hl => match us, hl with | [_, _, _], _ => rfl) (fun vs H Q E h => ?_) (fun cdv A outer s H vs Q E hr h => ?_)
  · obtain ⟨dp, wp, jv, J, rfl, _⟩ := h; rfl
  · obtain ⟨dp, wp, jv, J, rfl, hd, hw, hJ, hJo, q⟩ := h
    obtain ⟨jp, je, jq, jxs, rfl, hj1, hj2, hj3⟩ := rep_join hJ
    have hjl : jxs.length = J.length := by rw [reps_len hj3, List.length_map]
    have hJl := hJo.len
    refine ⟨_, (pss_cons (ps_if (pt_cmpR op_ne (pe_c c_l_take hr (pa_cons (pv 0) (pa_cons pe_int pa_nil))) pe_int (nomark _)) (pss_one (ps_ret (pv 2))) pss_nil)
      (pss_cons (ps_set (i := 3) sc_l_more_atoms.nd rfl (by first | exact Or.inl rfl | exact Or.inr rfl) (pe_callTy call_list_of (by rfl) T.b_list boot_list_ (pa_cons (pe_ix ix_tup (pv 2) pe_int (fun _ _ => rfl)) pa_nil)))
      (pss_cons (ps_set (i := 4) sc_l_more_atoms.nd rfl (by first | exact Or.inl rfl | exact Or.inr rfl) (pe_join pe_str (pe_lc (own := [("_law_table", 5)]) (g := gName 5) (tt := tYes) rfl sc_l_more_atoms.nd (pi_tup (pe_ix ix_list (pv 1) pe_int (fun _ _ => rfl))) (blkOk_by (own := [("_law_table", 5)]) (N := sc_l_more_atoms_N) (sc := sc_l_more_atoms_s) (by decide +kernel)) (fun _ _ _ _ _ => pg_name (i := 5) sc_l_more_atoms.nd rfl (Or.inl rfl)) (fun _ _ _ _ _ => pts_nil) (fun _ _ _ _ _ => (pe_ix (kx_tup (K := K) rfl) (pv 5) pe_int (fun _ _ => rfl))))))
      (pss_cons (ps_for PassesOwn.never rfl (pi_range1 (by rfl) T.b_range (pa_cons pe_int pa_nil)) (pg_name (i := 6) sc_l_more_atoms.nd rfl (by first | exact Or.inl rfl | exact Or.inr rfl)) (pss_cons (ps_set (i := 7) sc_l_more_atoms.nd rfl (by first | exact Or.inl rfl | exact Or.inr rfl) (pe_callTy call_tuple_of (by rfl) T.b_tuple boot_tuple_ (pa_cons (pe_lc (own := [("_law_j", 8)]) (g := gName 8) (tt := tYes) rfl sc_l_more_atoms.nd (pi_range1 (by rfl) T.b_range (pa_cons (pe_c c_l_take hr (pa_cons (pv 0) (pa_cons pe_int pa_nil))) pa_nil)) (blkOk_by (own := [("_law_j", 8)]) (N := sc_l_more_atoms_N) (sc := sc_l_more_atoms_s) (by decide +kernel)) (fun _ _ _ _ _ => pg_name (i := 8) sc_l_more_atoms.nd rfl (Or.inl rfl)) (fun _ _ _ _ _ => pts_nil) (fun _ _ _ _ _ => (pe_c c_l_term hr (pa_cons (pv 0) (pa_cons (pv 1) pa_nil))))) pa_nil)))
      (pss_one (ps_expr (pe_bm PySem.F.plainAttrs_list PySem.F.slot_list_insert PySem.F.type_list_insert mt_insert (pv 3) (pa_cons (pe_c c_l_take hr (pa_cons (pv 0) (pa_cons (pe_op op_add (pe_callB call_len_seq (by rfl) T.b_len boot_len (pa_cons (pv 3) pa_nil)) pe_int) pa_nil))) (pa_cons (pe_tup (pa_cons (pe_op op_add_str (pv 4) (pe_ix ix_str pe_str (pv 6) (fun _ _ => rfl))) (pa_cons (pv 7) pa_nil))) pa_nil)))))))
      (pss_one (ps_ret (pe_tup (pa_cons (pe_tup pa_nil) (pa_cons (pe_callTy call_tuple_of (by rfl) T.b_tuple boot_tuple_ (pa_cons (pv 3) pa_nil)) pa_nil))))))))), ?_⟩
    wtm_at "rd"
    refine ⟨dp, 3, rfl, by decide, hd, fun r H1 hr1 k1 hd1 => ?_⟩
    have kt1 := KT.dr k1 hd
    have hw1 := hw.kp k1 hd
    obtain ⟨sch, ns, ts, hW, hO⟩ := hw1.ex
    obtain ⟨sp, np, vp, sxs, h1, h2, h3, h4, h5, h6, h7, h8⟩ := hW.ex
    wtm_at "rd"
    refine ite2 (fun _ => ?_) (fun _ => ?_)
    · exact q J _ _ (hJo.mono (by decide) (by decide)) k1 hd1 (hJ.kt kt1 _ _)
    · refine ⟨_, SqT.of (kt1 _ _ hj1), _, rfl, jq, rfl, _, .inr (SqT.of (kt1 _ _ hj2)), fun bp hbp => ?_⟩
      have hbd := hd1.ne hbp
      have s1 := same_new hbp (.lst jxs)
      have hd2 := hd1.upd_ne' (o := .lst jxs) hbd
      have hb2 : upd H1 bp (.lst jxs) bp = some (.lst jxs) := upd_same
      have hw2 : WR dp (upd H1 bp (.lst jxs)) wp := hw1.kp (Kp.same s1) hd1
      have kb1 : Kp dp H1 (upd H1 bp (.lst jxs)) := Kp.same s1
      have h12 := s1 _ _ h1
      have h22 := s1 _ _ h2
      have h32 : SchR (upd H1 bp (.lst jxs)) sxs sch := h3.kt (KT.same s1)
      have hj32 : Reps (upd H1 bp (.lst jxs)) (J.map atomD) jxs := hj3.kt (kt1.trans (KT.same s1)) _ _
      have hbH : H1 bp = none := hbp
      generalize upd H1 bp (.lst jxs) = H2 at hd2 hb2 hw2 kb1 h12 h22 h32 hj32 ⊢
      refine ⟨⟨_, rfl⟩, _, SqL.of h12, _, atI_nat (j := 0) rfl, sp, rfl, ⟨_, SqT.of h22⟩, ?_⟩
      have hsl : sxs.length = sch.length := h32.length
      have hl4 := hO.l1
      refine lcb (walk_tup (xs := sxs)) (fun D i H' => H' = upd H2 D (.lst ((sL (sch.map fun n => n.1)).take i))) (fun D hD => rfl) (fun D i H' hD e => ?_) (fun D i v H3 H4 hD hi e y => ?_) (fun D H' hD e => ?_)
      · rw [e]; exact SqT.of (by rw [upd_ne (ne_of_none h22 hD)]; exact h22)
      · obtain ⟨rfl, hv⟩ := y
        subst e
        obtain ⟨n, hn⟩ : ∃ n, sch[i]? = some n := ⟨_, List.getElem?_eq_getElem (by omega)⟩
        obtain ⟨v', hv', a, e1, e2⟩ := pr_get h32 hn
        rw [hv] at hv'
        cases hv'
        subst e1
        wtm_at "rd"
        refine ⟨_, SqT.of (by rw [upd_ne (ne_of_none e2 hD)]; exact e2), _, rfl, ?_⟩
        exact acc_next (by rw [List.getElem?_map, List.getElem?_map, hn]; rfl) (by simp; omega) (fun H' => H' = _) rfl
      · rw [List.take_of_length_le (by simp; omega)] at e
        subst e
        have hDd := hd2.ne hD
        have hDb : D ≠ bp := (ne_of_none hb2 hD).symm
        have sD := same_new hD (.lst (sL (sch.map fun n => n.1)))
        have hd3 := hd2.upd_ne' (o := .lst (sL (sch.map fun n => n.1))) hDd
        wtm_at "rd"
        refine ⟨(sch.map fun n => n.1).map S, .inl (SqL.of (by rw [upd_same, sL_strs])), ?_, by decide, by decide, ?_⟩
        all_goals
          have hfl : (sch.map fun n => n.1).flatten.length ≤ 1600 := by
            have : ∀ l : List (List Nat × Nat), (∀ n ∈ l, n.1.length ≤ 400) → (l.map fun n => n.1).flatten.length ≤ 400 * l.length := by
              intro l
              induction l with
              | nil => intro _; simp
              | cons n r ih =>
                intro h
                have := ih fun m hm => h m (List.mem_cons_of_mem _ hm)
                have := h n List.mem_cons_self
                rw [List.map_cons, List.flatten_cons, List.length_append, List.length_cons]
                omega
            have := this sch fun n hn => (hO.sc n hn).2.1
            omega
        · rw [sum_len]; omega
        · rw [join_ws]
          obtain ⟨bs, hbs⟩ : ∃ bs, bs = (sch.map fun n => n.1).flatten := ⟨_, rfl⟩
          rw [← hbs] at hfl ⊢
          have hbl : ∀ c ∈ bs, isL c = true := fun c hc => by
            rw [hbs] at hc
            obtain ⟨u, hu, hcu⟩ := List.mem_flatten.mp hc
            obtain ⟨n, hn, rfl⟩ := List.mem_map.mp hu
            exact (isWord_iff.mp (hO.sc n hn).1).2 c hcu
          obtain ⟨Pv, hPv⟩ := opq3 fun i σ H' => ∃ (J' : Body) (bxs : List V) (u6 u7 : Option V), Kp dp H1 H' ∧ Dr dp H' ∧ WR dp H' wp ∧ H' bp = some (.lst bxs) ∧ Reps H' (J'.map atomD) bxs ∧ J' ≠ [] ∧ J'.length ≤ 4 + i ∧ (∀ a ∈ J', AOk 2000 a) ∧
            σ = [some (.ref dp), some (.ref wp), some (.ref jp), some (.ref bp), some (.str (S bs)), none, u6, u7, none]
          refine forb (walk_range (lo := 0) (n := 4)) Pv ((hPv _ _ _).mpr ⟨J, jxs, none, none, kb1.trans (Kp.same sD), hd3, hw2.kp (Kp.same sD) hd2, sD _ _ hb2, hj32.kt (KT.same sD) _ _, hJo.ne, hJl, (hJo.mono (b' := 2000) (m' := 8) (by decide) (by decide)).at_, rfl⟩) (fun _ _ _ _ => trivial) (fun i x σ H' H5 hi pv y => ?_) (fun σ H' pv => ?_)
          · obtain ⟨J', bxs, u6, u7, k5, hd5, hw5, hb5, hbr, hJ0, hJl', hJa, rfl⟩ := (hPv _ _ _).mp pv
            obtain ⟨rfl, rfl⟩ := y
            have hbxl := reps_len hbr
            rw [List.length_map] at hbxl
            wtm_at "rd"
            rw [Int.zero_add]
            refine ⟨dp, 3, rfl, by decide, hd5, fun r6 H6 hr6 k6 hd6 => ?_⟩
            have hw6 := hw5.kp k6 hd5
            wtm_at "rd"
            refine ⟨by omega, by omega, ?_⟩
            rw [Int.toNat_natCast]
            obtain ⟨Pw, hPw⟩ : ∃ Pw : Addr → Nat → Hp → Prop, ∀ D i H', Pw D i H' ↔ Kp dp H6 H' ∧ Dr dp H' ∧ ∃ (tms : List Tm) (xs : List V), tms.length = i ∧ (∀ t ∈ tms, TB t) ∧ H' D = some (.lst xs) ∧ Reps H' (tms.map tmD) xs := ⟨_, fun _ _ _ => Iff.rfl⟩
            refine lcb (walk_range (lo := 0) (n := r6)) Pw (fun D hD => (hPw _ _ _).mpr ⟨(Kp.refl dp H6).new hD, hd6.upd_ne' (hd6.ne hD), [], [], rfl, by simp, upd_same, rfl⟩) (fun _ _ _ _ _ => trivial) (fun D7 j x H7 H8 hD7 hj e y => ?_) (fun D7 H7 hD7 e => ?_)
            · obtain ⟨k7, hd7, tms, xs, htl, htb, hDx, hrp⟩ := (hPw _ _ _).mp e
              obtain ⟨rfl, rfl⟩ := y
              have hDd := hd6.ne hD7
              have hxl := reps_len hrp
              rw [List.length_map] at hxl
              wtm_at "rd"
              refine ⟨dp, wp, rfl, hd7, hw6.kp k7 hd6, fun t v H9 ht k9 hd9 hv => ?_⟩
              have hD9 := k9 _ _ hDd hDx
              have kt := (KT.refl H9).upd (x := D7) (u := .lst (xs ++ [v])) hD9 fun _ z => by cases z
              refine ⟨xs, hD9, lt_line (by omega), (hPw _ _ _).mpr ⟨(k7.trans k9).mutn hD7, hd9.upd_ne' hDd, tms ++ [t], xs ++ [v], by simp <;> omega, ?_, upd_same, ?_⟩⟩
              · intro s hs
                rcases List.mem_append.mp hs with hs | hs
                · exact htb s hs
                · rw [List.mem_singleton.mp hs]; exact ht
              · rw [List.map_append]
                exact reps_app (hrp.kt ((KT.dr k9 hd7).trans kt) _ _) ⟨v, [], rfl, hv.kt kt _ _, rfl⟩
            · obtain ⟨k7, hd7, tms, xs, htl, htb, hDx, hrp⟩ := (hPw _ _ _).mp e
              have hb6 := k6 _ _ hbd hb5
              have hb7 := k7 _ _ hbd hb6
              wtm_at "rd"
              refine ⟨_, .inl ⟨SqL.of hDx, fun l hl => ?_⟩⟩
              have sl := same_new hl (.tup xs)
              have hb8 := sl _ _ hb7
              have hl8 : upd H7 l (.tup xs) l = some (.tup xs) := upd_same
              have hd8 := hd7.upd_ne' (o := .tup xs) (hd7.ne hl)
              have k68 : Kp dp H5 (upd H7 l (.tup xs)) := (k6.trans k7).trans (Kp.same sl)
              have kt8 := KT.dr k68 hd5
              have hr8 : Reps (upd H7 l (.tup xs)) (tms.map tmD) xs := hrp.kt (KT.same sl) _ _
              generalize upd H7 l (.tup xs) = H8 at hb8 hl8 hd8 k68 kt8 hr8 ⊢
              refine ⟨tyL hb8, _, .inl (SqL.of hb8), dp, bxs.length + 1, rfl, by omega, hd8, fun r9 H9 hr9 k9 hd9 => ?_⟩
              have hb9 := k9 _ _ hbd hb8
              have kt9 := KT.dr k9 hd8
              wtm_at "rd"
              have habc : ([97, 98, 99, 100] : List Nat)[i]? = some (97 + i) := by
                match i, hi with
                | 0, _ => rfl
                | 1, _ => rfl
                | 2, _ => rfl
                | 3, _ => rfl
              refine ⟨97 + i, atI_nat habc, le_line (by omega), fun p hp => ?_⟩
              have ec : (S bs ++ ({ cps := #[97 + i] } : Str)) = S (bs ++ [97 + i]) := S_cat bs [97 + i]
              rw [ec]
              have sp' := same_new hp (.tup [.str (S (bs ++ [97 + i])), .ref l])
              have hb10 := sp' _ _ hb9
              have hnm : isWord (bs ++ [97 + i]) = true := isWord_iff.mpr ⟨by simp, fun c hc => by
                rcases List.mem_append.mp hc with hc | hc
                · exact hbl c hc
                · rw [List.mem_singleton.mp hc]; exact isL_iff.mpr ⟨by omega, by omega⟩⟩
              have ha : AOk 2000 (bs ++ [97 + i], tms) := ⟨hnm, by simp <;> omega, by simp <;> omega, htb⟩
              have ktp := KT.same sp'
              have ktu := (KT.refl (upd H9 p (.tup [.str (S (bs ++ [97 + i])), .ref l]))).upd (x := bp) (u := .lst (bxs.take r9 ++ [.ref p] ++ bxs.drop r9)) hb10 fun _ z => by cases z
              have kall : Kp dp H5 (upd H9 p (.tup [.str (S (bs ++ [97 + i])), .ref l])) := (k68.trans k9).new hp
              refine ⟨_, hb10, lt_line (by omega), by omega, by omega, ?_⟩
              rw [Int.toNat_natCast]
              refine (hPv _ _ _).mpr ⟨J'.take r9 ++ [(bs ++ [97 + i], tms)] ++ J'.drop r9, _, _, _, (k5.trans kall).mutn hbH, (hd9.upd_ne' (hd9.ne hp)).upd_ne' hbd, ?_, upd_same, ?_, by simp, ?_, fun a hma => ?_, rfl⟩
              · exact hw1.kp ((k5.trans kall).mutn hbH) hd1
              · rw [List.map_append, List.map_append, List.map_take, List.map_drop]
                have hr10 := hbr.kt ((kt8.trans kt9).trans (ktp.trans ktu)) _ _
                refine reps_app (reps_app (reps_take r9 hr10) ⟨.ref p, [], rfl, ?_, rfl⟩) (reps_drop r9 hr10)
                refine Rep.kt ktu _ _ ⟨p, _, rfl, upd_same, _, _, rfl, rfl, _, _, rfl, ⟨l, xs, rfl, ktp _ _ (kt9 _ _ hl8), hr8.kt (kt9.trans ktp) _ _⟩, rfl⟩
              · rw [List.length_append, List.length_append, List.length_take, List.length_drop]
                simp
                omega
              · rcases List.mem_append.mp hma with hma | hma
                · rcases List.mem_append.mp hma with hma | hma
                  · exact hJa a (List.mem_of_mem_take hma)
                  · rw [List.mem_singleton.mp hma]; exact ha
                · exact hJa a (List.mem_of_mem_drop hma)
          · obtain ⟨J', bxs, u6, u7, k5, hd5, hw5, hb5, hbr, hJ0, hJl', hJa, rfl⟩ := (hPv _ _ _).mp pv
            wtm_at "rd"
            intro p hp
            refine ⟨_, .inl ⟨SqL.of ((same_new hp _) _ _ hb5), fun l hl p1 hp1 => ?_⟩⟩
            have sa := same_new hp (.tup [])
            have sb := same_new hl (.tup bxs)
            have sc' := same_new hp1 (.tup [.ref p, .ref l])
            have hda := hd5.upd_ne' (o := .tup []) (hd5.ne hp)
            have hdb := hda.upd_ne' (o := .tup bxs) (hda.ne hl)
            exact q J' _ _ ⟨hJ0, by omega, hJa⟩ (k1.trans (k5.trans (Kp.same ((sa.trans sb).trans sc')))) (hdb.upd_ne' (hdb.ne hp1)) ⟨p1, _, rfl, upd_same, _, _, rfl, ⟨p, [], rfl, sc' _ _ (sb _ _ upd_same), rfl⟩, _, _, rfl, ⟨l, bxs, rfl, sc' _ _ upd_same, hbr.kt (KT.same ((sa.trans sb).trans sc')) _ _⟩, rfl⟩
end
end K26

end
section
set_option linter.all false
set_option maxRecDepth 100000
set_option maxHeartbeats 4000000
namespace K26
open PySem PySem.Spec PyProof.Rows L2
open SX (S S_len S_cat S_inj)
open PySem.NumText
local macro_rules | `(tactic| wtm_at "rd") => `(tactic| try simp only [tSeq, tAsg, tVar, tC, gName, tRet, tRetN, tIfS, tNext, tDrop, tOp, tUn, rI0, rI, rU, tTest, tB, tAnd, tOr, tNot, tAndV, tOrV, tNotV, tIf, tCB, tCons, tNil, tTup, tLst, tCall, tSl, tPart, tNoPart, tBM, tBM0, gTup, gCons, gNil, gSub, tAug, ipI, rEq, rNe, sc_ii, sc_ss, sc_bb, sc_nn, sc_is, sc_si, sc_ns, sc_sn, sc_ni, sc_in, z0, z1, z2, z3, z4, z5, if_true, if_false, Bool.not_eq_true', decide_eq_false_iff_not, rIxS, rSlS, rSlL, tAugS, rGetL, cast1, rIxL, rIxT, rSetL, rAppend, rPop, rPopAt, rReverse, rCat, tYes, iRng1, iRng2, tMkBad, rIn, tFld, sFld, sFldAug, rAdd, tMeth, tMake, tCallS, tBadF, tM1, iList, iTup, iEnum, iEnumT, iStr, tBreak, C8.tCut, tFor_eq, tLc_eq, wipe_1,
  L2.start, List.map_cons, List.map_nil, List.cons_append, List.nil_append, List.append_nil, List.length_cons, List.length_nil, Nat.reduceAdd, Nat.reduceSub, List.replicate_succ, List.replicate_zero,
  List.getElem?_cons_succ, List.getElem?_cons_zero, List.set_cons_succ, List.set_cons_zero, Option.some.injEq, V.int.injEq, V.str.injEq, V.ref.injEq, V.bl.injEq, List.cons.injEq, and_assoc, and_true, true_and, exists_eq_left', exists_eq_left, exists_and_left, exists_and_right, exists_eq, decide_eq_true_eq, reduceCtorEq, false_and, and_false, exists_false, false_or, or_false, S_len, S_eq, k0, k1, k2, k3, k4, k5, k6, k7, k8, k9, k10, k11, k12, k13, k14, k15, k16, k17, k18, k19, k20, k21, k22, k23, k24, k25, k26, k27, k28, k29, k30, k31, k32, k33, k34, k35, k36, k37, k38, k39, k40, k41, k42, k43, k44, k45, k46, k47, k48, k49, k50, k51, k52, k53, Nat.zero_add])

section
theorem erase_map {α β : Type} (f : α → β) : ∀ (l : List α) (i : Nat), (l.map f).eraseIdx i = (l.eraseIdx i).map f
  | [], _ => rfl
  | _ :: _, 0 => rfl
  | a :: l, i + 1 => by show f a :: (l.map f).eraseIdx i = _; rw [erase_map f l i]; rfl
theorem val_lt {cs : List Nat} (h : ∀ c ∈ cs, isD c = true) : digitsVal cs < 10 ^ cs.length := by
  have : ∀ (cs : List Nat) (acc : Nat), (∀ c ∈ cs, isD c = true) → cs.foldl (fun acc c => acc * 10 + (c - 48)) acc < (acc + 1) * 10 ^ cs.length := by
    intro cs
    induction cs with
    | nil => intro acc _; simp
    | cons c r ih =>
      intro acc h
      have hc := isD_iff.mp (h c List.mem_cons_self)
      have h1 := ih (acc * 10 + (c - 48)) fun d hd => h d (List.mem_cons_of_mem _ hd)
      have h2 : (acc * 10 + (c - 48) + 1) * 10 ^ r.length ≤ ((acc + 1) * 10) * 10 ^ r.length := Nat.mul_le_mul_right _ (by omega)
      rw [List.length_cons, Nat.pow_succ, List.foldl_cons]
      have h3 : (acc + 1) * (10 ^ r.length * 10) = ((acc + 1) * 10) * 10 ^ r.length := by rw [Nat.mul_assoc, Nat.mul_comm (10 ^ r.length) 10]
      omega
  have := this cs 0 h
  simpa [digitsVal] using this
theorem lg_lt {n : Nat} (h : n < 10 ^ 200) : n.log2 < 1920 := by
  by_cases hz : n = 0
  · rw [hz]; decide
  · refine (Nat.log2_lt hz).mpr (Nat.lt_of_lt_of_le h ?_)
    calc 10 ^ 200 ≤ (2 ^ 4) ^ 200 := Nat.pow_le_pow_left (by decide) 200
      _ = 2 ^ 800 := by rw [← Nat.pow_mul]
      _ ≤ 2 ^ 1920 := Nat.pow_le_pow_right (by decide) (by decide)
theorem isO_take {u : List Nat} (k : Nat) (h : isO u) : isO (u.take k) := isO_sub h fun _ hc => List.mem_of_mem_take hc
theorem Pc.ofO {b : Nat} {u : List Nat} (h : isO u) (ho : oc u ≤ 1) (hl : u.length ≤ 2000 + 2 * b) (hc : ∀ c ∈ u, c < 1114112) : Pc b u := ⟨.inl h, ho, hl, hc⟩
theorem ch_take {u : List Nat} (k : Nat) (h : ∀ c ∈ u, c < 1114112) : ∀ c ∈ u.take k, c < 1114112 := fun c hc => h c (List.mem_of_mem_take hc)
theorem oc_take (u : List Nat) (k : Nat) : oc (u.take k) ≤ oc u := oc_sub (List.take_sublist _ _)
variable {P : Program} {w : World} {K : PySem.W.Frag} {mg : Str → Option Value} {base : Heap} {CB fI : Addr}
def spNear : Sp := fun vs H Q _ => ∃ (dp : Addr) (u : List Nat) (b : Nat), vs = [.ref dp, .str (S u)] ∧ Dr dp H ∧ Pc b u ∧ b ≤ 10 ∧ ∀ v H', Pc (b + 1) v → Kp dp H H' → Dr dp H' → Q (.str (S v)) H'
abbrev sc_l_near_N : List Str := ["_law_draws_here", "_law_text"]
abbrev sc_l_near_P : List Str := ["_law_draws_here", "_law_text"]
abbrev sc_l_near_s : Scope := defScope s_l_near
theorem sc_l_near : FnScope sc_l_near_N sc_l_near_P sc_l_near_s := ⟨rfl, rfl, rfl, by decide +kernel, rfl, by decide +kernel, by decide +kernel⟩

theorem ok_near (T : Txt K mg) : Cal P w K mg base CX0 3 "_law_near" spNear := by
  have c_l_pick : Cal P w K mg base CX0 2 "_law_pick" (spPick K) := ok_pick T
  have c_l_is_word : Cal P w K mg base CX0 1 "_law_is_word" spIsWord := ok_is_word T
  refine cal0 T.f_l_near T.g_l_near sc_l_near (fun _ _ _ _ _ _ us hl => match us, hl with | [_, _], _ => rfl) (fun vs H Q E h => ?_) (fun cdv A outer s H vs Q E hr h => ?_)
  · obtain ⟨dp, u, b, rfl, _⟩ := h; rfl
  · obtain ⟨dp, u, b, rfl, hd, hu, hb, q⟩ := h
    refine ⟨_, (pss_cons (ps_if (PW.pt (pw_and (pt_cmpR op_ne (pv 1) pe_str (nomark _)) (pw_and1 (pt_cmpR op_in_sign (pe_ix ix_str (pv 1) pe_int (fun _ _ => rfl)) pe_str rfl)))) (pss_one (ps_ret (pe_c c_l_pick hr (pa_cons (pv 0) (pa_cons (pe_lst (pa_cons (pe_op op_add_str pe_str (pv 1)) (pa_cons (pe_op op_add_str pe_str (pv 1)) (pa_cons (pe_callTy call_str_int (by rfl) T.b_str boot_str_ (pa_cons (pe_op op_add (pe_callTy call_int_str (by rfl) T.b_int boot_int_ (pa_cons (pv 1) pa_nil)) pe_int) pa_nil)) (pa_cons (pe_callTy call_str_int (by rfl) T.b_str boot_str_ (pa_cons (pe_op op_mul pe_int (pe_callTy call_int_str (by rfl) T.b_int boot_int_ (pa_cons (pv 1) pa_nil))) pa_nil)) (pa_cons pe_str pa_nil)))))) pa_nil))))) pss_nil)
      (pss_cons (ps_if (PW.pt (pw_and (pt_cmpR op_ne (pv 1) pe_str (nomark _)) (pw_and1 (pt_cmpR op_eq (pe_ix ix_str (pv 1) pe_int (fun _ _ => rfl)) pe_str (nomark _))))) (pss_one (ps_ret (pe_c c_l_pick hr (pa_cons (pv 0) (pa_cons (pe_lst (pa_cons (pe_slice sl_str (pv 1) (po_some pe_int) po_none) (pa_cons (pe_slice sl_str (pv 1) po_none (po_some (pe_op op_sub (pe_callB call_len_str (by rfl) T.b_len boot_len (pa_cons (pv 1) pa_nil)) pe_int))) (pa_cons (pe_op op_add_str (pv 1) pe_str) (pa_cons pe_str pa_nil))))) pa_nil))))) pss_nil)
      (pss_cons (ps_if (pt_val (pe_c c_l_is_word hr (pa_cons (pv 1) pa_nil))) (pss_one (ps_ret (pe_c c_l_pick hr (pa_cons (pv 0) (pa_cons (pe_lst (pa_cons (pe_op op_add_str (pv 1) pe_str) (pa_cons (pe_op op_add_str (pe_op op_add_str pe_str (pv 1)) pe_str) (pa_cons (pe_op op_add_str (pe_slice sl_str (pv 1) po_none (po_some (pe_op op_sub (pe_callB call_len_str (by rfl) T.b_len boot_len (pa_cons (pv 1) pa_nil)) pe_int))) pe_str) (pa_cons (pe_slice sl_str (pv 1) po_none (po_some (pe_op op_sub (pe_callB call_len_str (by rfl) T.b_len boot_len (pa_cons (pv 1) pa_nil)) pe_int))) pa_nil))))) pa_nil))))) pss_nil)
      (pss_one (ps_ret (pe_c c_l_pick hr (pa_cons (pv 0) (pa_cons (pe_lst (pa_cons pe_str (pa_cons pe_str (pa_cons pe_str (pa_cons pe_str (pa_cons pe_str (pa_cons pe_str (pa_cons pe_str (pa_cons pe_str (pa_cons pe_str pa_nil)))))))))) pa_nil)))))))), ?_⟩
    have hul := hu.len
    have pick : ∀ (p : Addr) (ls : List (List Nat)), H p = none → ls ≠ [] → (∀ v ∈ ls, Pc (b + 1) v) → spPick K [V.ref dp, V.ref p] (upd H p (.lst (sL ls))) Q E0 := fun p ls hp h0 hls =>
      ⟨dp, p, sL ls, rfl, upd_same, hd.ne hp, (fun z => h0 (by simpa using z)), hd.upd_ne' (hd.ne hp), fun v H' hv k hd' => by
        obtain ⟨x, hx, rfl⟩ := List.mem_map.mp hv
        exact q x H' (hls x hx) (((Kp.refl dp H).new hp).trans k) hd'⟩
    have o34 : isD 34 = false := by decide
    have o65 : isD 65 = false := by decide
    have one : ∀ c, isD c = false → isO [c] := fun c hc d hd => by rw [List.mem_singleton.mp hd]; exact hc
    have minus : ∀ {c : Nat} {r : List Nat}, u = c :: r → cutS (S u) none (some ((u.length : Int) - 1)) = S (u.take (u.length - 1)) := fun {c r} e => by
      have : ((u.length : Int) - 1) = ((u.length - 1 : Nat) : Int) := by rw [e, List.length_cons]; omega
      rw [this, cut_to (by omega)]
    -- behind the first two questions
    have last : ∃ c, V.bl (isWord u) = V.bl c ∧ (if c = true then u.length + 1 ≤ sizeLine ∧ 1 + u.length ≤ sizeLine ∧ (S [34] ++ S u).length + 1 ≤ sizeLine ∧ u.length ≤ sizeLine ∧ u.length ≤ sizeLine ∧ (cutS (S u) none (some ((u.length : Int) - 1))).length + 1 ≤ sizeLine ∧ u.length ≤ sizeLine ∧ u.length ≤ sizeLine ∧
        ∀ p, H p = none → spPick K [V.ref dp, V.ref p] (upd H p (.lst [.str (S u ++ S [97]), .str (S [34] ++ S u ++ S [34]), .str (cutS (S u) none (some ((u.length : Int) - 1)) ++ S [65]), .str (cutS (S u) none (some ((u.length : Int) - 1)))])) Q E0
        else 9 ≤ sizeLine ∧ ∀ p, H p = none → spPick K [V.ref dp, V.ref p] (upd H p (.lst [.str (S [40]), .str (S [41]), .str (S [91]), .str (S [93]), .str (S [44]), .str (S [59]), .str (S [47]), .str (S [42]), .str (S [33])])) Q E0) := by
      refine ⟨_, rfl, ite2 (fun hw => ?_) (fun _ => ?_)⟩
      · obtain ⟨c, r, e, _⟩ := word_head hw
        rw [minus e, S_cat, S_cat, S_cat, S_cat]
        have ho := isO_word hw
        have hz := oc_word hw
        have hz2 : ∀ k, oc (u.take k) = 0 := fun k => by have := oc_take u k; omega
        have htl : (u.take (u.length - 1)).length ≤ u.length := by rw [List.length_take]; omega
        refine ⟨le_line (by omega), le_line (by omega), le_line (by rw [S_len]; simp; omega), le_line (by omega), le_line (by omega), le_line (by rw [S_len]; omega), le_line (by omega), le_line (by omega), fun p hp => ?_⟩
        refine pick p [u ++ [97], [34] ++ u ++ [34], u.take (u.length - 1) ++ [65], u.take (u.length - 1)] hp (by simp) fun v hv => ?_
        simp only [List.mem_cons, List.not_mem_nil, or_false] at hv
        rcases hv with rfl | rfl | rfl | rfl
        · exact Pc.ofO (isO_app ho (one 97 (by decide))) (by rw [oc_app, hz]; decide) (by simp; omega) (ch_app hu.ch (ch_one (by decide)))
        · exact Pc.ofO (isO_app (isO_app (one 34 o34) ho) (one 34 o34)) (by rw [oc_app, oc_app, hz]; decide) (by simp; omega) (ch_app (ch_app (ch_one (by decide)) hu.ch) (ch_one (by decide)))
        · exact Pc.ofO (isO_app (isO_take _ ho) (one 65 o65)) (by rw [oc_app, hz2]; decide) (by rw [List.length_append]; simp; omega) (ch_app (ch_take _ hu.ch) (ch_one (by decide)))
        · exact Pc.ofO (isO_take _ ho) (by rw [hz2]; omega) (by omega) (ch_take _ hu.ch)
      · refine ⟨le_line (by decide), fun p hp => pick p [[40], [41], [91], [93], [44], [59], [47], [42], [33]] hp (by simp) fun v hv => ?_⟩
        simp only [List.mem_cons, List.not_mem_nil, or_false] at hv
        rcases hv with rfl | rfl | rfl | rfl | rfl | rfl | rfl | rfl | rfl <;> exact Pc.one _ (by decide)
    have lastW : spIsWord [V.str (S u)] H (fun x H1 => ∃ c, x = V.bl c ∧ (if c = true then u.length + 1 ≤ sizeLine ∧ 1 + u.length ≤ sizeLine ∧ (S [34] ++ S u).length + 1 ≤ sizeLine ∧ u.length ≤ sizeLine ∧ u.length ≤ sizeLine ∧ (cutS (S u) none (some ((u.length : Int) - 1))).length + 1 ≤ sizeLine ∧ u.length ≤ sizeLine ∧ u.length ≤ sizeLine ∧
        ∀ p, H1 p = none → spPick K [V.ref dp, V.ref p] (upd H1 p (.lst [.str (S u ++ S [97]), .str (S [34] ++ S u ++ S [34]), .str (cutS (S u) none (some ((u.length : Int) - 1)) ++ S [65]), .str (cutS (S u) none (some ((u.length : Int) - 1)))])) Q E0
        else 9 ≤ sizeLine ∧ ∀ p, H1 p = none → spPick K [V.ref dp, V.ref p] (upd H1 p (.lst [.str (S [40]), .str (S [41]), .str (S [91]), .str (S [93]), .str (S [44]), .str (S [59]), .str (S [47]), .str (S [42]), .str (S [33])])) Q E0)) E0 := ⟨u, rfl, last⟩
    wtm_at "rd"
    cases u with
    | nil =>
      rw [if_neg (by simp), if_neg (by simp)]
      exact lastW
    | cons c r =>
      rw [if_pos (by simp)]
      have hat : atI (c :: r) 0 = some c := atI_nat (j := 0) rfl
      refine ⟨le_line (by omega), c, hat, ite2 (fun hdg => ?_) (fun hdg => ?_)⟩
      · have hcd : isD c = true := by rw [← mem_digs]; exact decide_eq_true hdg
        obtain ⟨hall, hlen⟩ := hu.dig hcd
        have had := digits_of_isD hall
        have hv := val_lt hall
        have hp120 : digitsVal (c :: r) < 10 ^ 120 := Nat.lt_of_lt_of_le hv (Nat.pow_le_pow_right (by decide) (by omega))
        have hint : PySem.intText? (S (c :: r)) = some ((digitsVal (c :: r) : Nat) : Int) := int_pos had (by simp) (by omega)
        have hb200 : (10 : Nat) ^ 120 * 10 ≤ 10 ^ 200 := by decide
        refine ⟨le_line (by omega), le_line (by omega), _, hint, by omega, lg_lt (by omega), _, hint, by omega, .inl ⟨by decide, by decide⟩, lg_lt (by omega), fun p hp => ?_⟩
        rw [S_cat, S_cat, str_int, str_int]
        refine pick p [[48] ++ (c :: r), [45] ++ (c :: r), intL ((digitsVal (c :: r) : Int) + 1), intL (2 * (digitsVal (c :: r) : Int)), [57]] hp (by simp) fun v hv' => ?_
        have hlz : ∀ n : Nat, n < 10 ^ ((c :: r).length + 1) → Pc (b + 1) (intL (n : Int)) := fun n hn => by
          refine Pc.dn (dn_int _) ?_
          unfold intL
          rw [if_neg (by omega)]
          have : (natL ((n : Int)).natAbs).length ≤ (c :: r).length + 1 := TL.numL_len (by omega) (by simpa using hn)
          omega
        have hps : 10 ^ ((c :: r).length + 1) = 10 ^ (c :: r).length * 10 := Nat.pow_succ ..
        simp only [List.mem_cons, List.not_mem_nil, or_false] at hv'
        rcases hv' with rfl | rfl | rfl | rfl | rfl
        · refine Pc.dn (.inl fun d hd => ?_) (by simp at hlen ⊢; omega)
          rcases List.mem_append.mp hd with hd | hd
          · rw [List.mem_singleton.mp hd]; decide
          · exact hall d hd
        · exact Pc.dn (.inr ⟨_, rfl, hall⟩) (by simp at hlen ⊢; omega)
        · exact hlz (digitsVal (c :: r) + 1) (by omega)
        · have := hlz (2 * digitsVal (c :: r)) (by omega)
          exact this
        · exact Pc.one 57
      · rw [if_pos (by simp)]
        refine ⟨le_line (by omega), c, hat, ite2 (fun h34 => ?_) (fun _ => lastW)⟩
        subst h34
        have ho := hu.quo
        have hoc := hu.op
        rw [minus rfl, S_cat, show ((1 : Int)) = ((1 : Nat) : Int) from rfl, cut_from (by simp)]
        refine ⟨le_line (by omega), le_line (by omega), le_line (by omega), le_line (by omega), fun p hp => ?_⟩
        refine pick p [(34 :: r).drop 1, (34 :: r).take ((34 :: r).length - 1), (34 :: r) ++ [34], [48]] hp (by simp) fun v hv => ?_
        simp only [List.mem_cons, List.not_mem_nil, or_false] at hv
        rcases hv with rfl | rfl | rfl | rfl
        · exact Pc.ofO (isO_sub ho fun d hd => List.mem_cons_of_mem _ hd) (Nat.le_trans (oc_sub (List.sublist_cons_self 34 _)) hoc) (by simp at hul; omega) (fun d hd => hu.ch d (List.mem_cons_of_mem _ hd))
        · exact Pc.ofO (isO_take _ ho) (Nat.le_trans (oc_take _ _) hoc) (by rw [List.length_take]; omega) (ch_take _ hu.ch)
        · exact Pc.ofO (isO_app ho (one 34 o34)) (by rw [oc_app]; have : oc [34] = 0 := by decide
                                                     omega) (by rw [List.length_append]; simp at hul ⊢; omega) (ch_app hu.ch (ch_one (by decide)))
        · exact Pc.one 48
/-! ### _law_spoiled -/
def spSpoil : Sp := fun vs H Q _ => ∃ (dp tp mp : Addr) (l m : List (List Nat)) (b W O : Nat), vs = [.ref dp, .ref tp, .ref mp] ∧ Dr dp H ∧ H tp = some (.lst (sL l)) ∧ tp ≠ dp ∧ Ls b W O l ∧ W ≤ 900000 ∧ b ≤ 9 ∧ H mp = some (.lst (sL m)) ∧ mp ≠ dp ∧ m ≠ [] ∧ (∀ u ∈ m, Pc 0 u) ∧
  ∀ p H' l', Kp dp H H' → Dr dp H' → p ≠ dp → H' p = some (.lst (sL l')) → Ls (b + 1) (W + 6000) (O + 2) l' → Q (.ref p) H'
abbrev sc_l_spoiled_N : List Str := ["_law_draws_here", "_law_texts", "_law_menu_here", "_law_found", "_law_at", "_law_kind", "_law_other"]
abbrev sc_l_spoiled_P : List Str := ["_law_draws_here", "_law_texts", "_law_menu_here"]
abbrev sc_l_spoiled_s : Scope := defScope s_l_spoiled
theorem sc_l_spoiled : FnScope sc_l_spoiled_N sc_l_spoiled_P sc_l_spoiled_s := ⟨rfl, rfl, rfl, by decide +kernel, rfl, by decide +kernel, by decide +kernel⟩

theorem ok_spoiled (T : Txt K mg) : Cal P w K mg base CX0 4 "_law_spoiled" spSpoil := by
  have c_l_take : Cal P w K mg base CX0 1 "_law_take" spTakeN := ok_takeN T
  have c_l_pick : Cal P w K mg base CX0 2 "_law_pick" (spPick K) := ok_pick T
  have c_l_near : Cal P w K mg base CX0 3 "_law_near" spNear := ok_near T
  refine cal0 T.f_l_spoiled T.g_l_spoiled sc_l_spoiled (fun _ _ _ _ _ _ us hl => match us, hl with | [_, _, _], _ => rfl) (fun vs H Q E h => ?_) (fun cdv A outer s H vs Q E hr h => ?_)
  · obtain ⟨dp, tp, mp, l, m, b, W, O, rfl, _⟩ := h; rfl
  · obtain ⟨dp, tp, mp, l, m, b, W, O, rfl, hd, ht, htd, hls, hW, hb, hm, hmd, hm0, hmp, q⟩ := h
    refine ⟨_, (pss_cons (ps_set (i := 3) sc_l_spoiled.nd rfl (by first | exact Or.inl rfl | exact Or.inr rfl) (pe_callTy call_list_of (by rfl) T.b_list boot_list_ (pa_cons (pv 1) pa_nil)))
      (pss_cons (ps_set (i := 4) sc_l_spoiled.nd rfl (by first | exact Or.inl rfl | exact Or.inr rfl) (pe_c c_l_take hr (pa_cons (pv 0) (pa_cons (pe_op op_add (pe_callB call_len_seq (by rfl) T.b_len boot_len (pa_cons (pv 3) pa_nil)) pe_int) pa_nil))))
      (pss_cons (ps_set (i := 5) sc_l_spoiled.nd rfl (by first | exact Or.inl rfl | exact Or.inr rfl) (pe_c c_l_take hr (pa_cons (pv 0) (pa_cons pe_int pa_nil))))
      (pss_cons (ps_if (PW.pt (pw_or (pt_cmpR op_eq (pv 5) pe_int (nomark _)) (pw_or1 (pt_cmpR op_eq (pv 4) (pe_callB call_len_seq (by rfl) T.b_len boot_len (pa_cons (pv 3) pa_nil)) (nomark _))))) (pss_one (ps_expr (pe_bm PySem.F.plainAttrs_list PySem.F.slot_list_insert PySem.F.type_list_insert mt_insert (pv 3) (pa_cons (pv 4) (pa_cons (pe_c c_l_pick hr (pa_cons (pv 0) (pa_cons (pv 2) pa_nil))) pa_nil))))) (pss_one (ps_if (pt_cmpR op_eq (pv 5) pe_int (nomark _)) (pss_one (ps_expr (pe_bm PySem.F.plainAttrs_list PySem.F.slot_list_pop PySem.F.type_list_pop mt_popAt (pv 3) (pa_cons (pv 4) pa_nil)))) (pss_one (ps_if (pt_cmpR op_eq (pv 5) pe_int (nomark _)) (pss_one (ps_expr (pe_bm PySem.F.plainAttrs_list PySem.F.slot_list_insert PySem.F.type_list_insert mt_insert (pv 3) (pa_cons (pv 4) (pa_cons (pe_ix ix_list (pv 3) (pv 4) (fun _ _ => rfl)) pa_nil))))) (pss_one (ps_if (pt_cmpR op_eq (pv 5) pe_int (nomark _)) (pss_one (ps_set (i := 3) sc_l_spoiled.nd rfl (by first | exact Or.inl rfl | exact Or.inr rfl) (pe_slice sl_list (pv 3) po_none (po_some (pv 4))))) (pss_one (ps_if (pt_cmpR op_eq (pv 5) pe_int (nomark _)) (pss_cons (ps_set (i := 6) sc_l_spoiled.nd rfl (by first | exact Or.inl rfl | exact Or.inr rfl) (pe_c c_l_take hr (pa_cons (pv 0) (pa_cons (pe_callB call_len_seq (by rfl) T.b_len boot_len (pa_cons (pv 3) pa_nil)) pa_nil))))
      (pss_cons (ps_asg (pe_ix ix_list (pv 1) (pv 6) (fun _ _ => rfl)) (pg_sub (pv 3) (pv 4) set_list))
      (pss_one (ps_asg (pe_ix ix_list (pv 1) (pv 4) (fun _ _ => rfl)) (pg_sub (pv 3) (pv 6) set_list))))) (pss_one (ps_if (pt_cmpR op_eq (pv 5) pe_int (nomark _)) (pss_one (ps_asg (pe_c c_l_pick hr (pa_cons (pv 0) (pa_cons (pv 2) pa_nil))) (pg_sub (pv 3) (pv 4) set_list))) (pss_one (ps_asg (pe_c c_l_near hr (pa_cons (pv 0) (pa_cons (pe_ix ix_list (pv 3) (pv 4) (fun _ _ => rfl)) pa_nil))) (pg_sub (pv 3) (pv 4) set_list))))))))))))))
      (pss_one (ps_ret (pv 3))))))), ?_⟩
    wtm_at "rd"
    refine ⟨_, .inl (SqL.of ht), fun fp hfp => ?_⟩
    have hfd := hd.ne hfp
    have k0 := (Kp.refl dp H).new (o := .lst (sL l)) hfp
    have hwl := wt_len l
    have hwW := hls.wt
    have hll : (sL l).length = l.length := List.length_map _
    wtm_at "rd"
    refine ⟨_, .inl (SqL.of upd_same), dp, l.length + 1, by rw [hll], by omega, hd.upd_ne' hfd, fun r1 H1 hr1 k1 hd1 => ?_⟩
    wtm_at "rd"
    refine ⟨dp, 8, rfl, by decide, hd1, fun r2 H2 hr2 k2 hd2 => ?_⟩
    have k12 := k1.trans k2
    have k02 := k0.trans k12
    have hf2 := k12 _ _ hfd upd_same
    have ht2 := k02 _ _ htd ht
    have hm2 := k02 _ _ hmd hm
    wtm_at "rd"
    have hr1' : r1 ≤ l.length := by omega
    have fin : ∀ (H' : Hp) (l' : List (List Nat)), Kp dp H2 H' → Dr dp H' → Ls (b + 1) (W + 6000) (O + 2) l' → Q (.ref fp) (upd H' fp (.lst (sL l'))) := fun H' l' k d h =>
      q fp _ l' ((k02.trans k).mutn hfp) (d.upd_ne' hfd) hfd upd_same h
    have hm2' : sL m ≠ [] := fun z => hm0 (by simpa using z)
    have ins : tyV K "list" (V.ref fp) H2 ∧ spPick K [V.ref dp, V.ref mp] H2 (fun x H1 => ∃ x_1, H1 fp = some (HO.lst x_1) ∧ x_1.length < sizeLine ∧ 0 ≤ (r1 : Int) ∧ (r1 : Int) < 2 ^ 63 ∧ Q (V.ref fp) (upd H1 fp (HO.lst (List.take (r1 : Int).toNat x_1 ++ [x] ++ List.drop (r1 : Int).toNat x_1)))) E0 := by
      refine ⟨tyL hf2, dp, mp, _, rfl, hm2, hmd, hm2', hd2, fun v H3 hv k3 hd3 => ?_⟩
      obtain ⟨u, hu, rfl⟩ := List.mem_map.mp hv
      refine ⟨_, k3 _ _ hfd hf2, lt_line (by omega), by omega, by omega, ?_⟩
      have e : List.take (r1 : Int).toNat (sL l) ++ [V.str (S u)] ++ List.drop (r1 : Int).toNat (sL l) = sL (l.take r1 ++ [u] ++ l.drop r1) := by
        rw [Int.toNat_natCast]
        simp
      rw [e]
      exact fin _ _ k3 hd3 ((hls.insert r1 ((hmp u hu).mono (Nat.zero_le b))).mono (by omega) (by omega) (by omega))
    refine ite2 (fun _ => ins) (fun _ => ⟨_, .inl (SqL.of hf2), ite2 (fun _ => ins) (fun hne => ?_)⟩)
    have hlt : r1 < l.length := by omega
    obtain ⟨u, hu⟩ : ∃ u, l[r1]? = some u := ⟨_, List.getElem?_eq_getElem hlt⟩
    have hum := List.mem_of_getElem? hu
    have hpu := hls.pc u hum
    have hus : (sL l)[r1]? = some (.str (S u)) := by rw [List.getElem?_map, hu]; rfl
    have hix : ixN (sL l).length (r1 : Int) = some r1 := ixN_nat (by omega)
    refine ite2 (fun _ => ?_) (fun _ => ite2 (fun _ => ?_) (fun _ => ite2 (fun _ => ?_) (fun _ => ite2 (fun _ => ?_) (fun _ => ite2 (fun _ => ?_) (fun _ => ?_)))))
    · refine ⟨tyL hf2, _, hf2, by omega, by omega, r1, seq_nat (by omega), ⟨_, hus⟩, ?_⟩
      have e : (sL l).eraseIdx r1 = sL (l.eraseIdx r1) := erase_map _ l r1
      rw [e]
      exact fin _ _ (Kp.refl _ _) hd2 ((hls.sub (List.eraseIdx_sublist l r1)).mono (by omega) (by omega) (by omega))
    · refine ⟨tyL hf2, _, SqL.of hf2, _, atI_nat hus, _, hf2, lt_line (by omega), by omega, by omega, ?_⟩
      have e : List.take (r1 : Int).toNat (sL l) ++ [V.str (S u)] ++ List.drop (r1 : Int).toNat (sL l) = sL (l.take r1 ++ [u] ++ l.drop r1) := by
        rw [Int.toNat_natCast]
        simp
      rw [e]
      exact fin _ _ (Kp.refl _ _) hd2 ((hls.insert r1 hpu).mono (by omega) (by omega) (by omega))
    · refine ⟨_, SqL.of hf2, fun p hp => ?_⟩
      rw [cutV_to (by omega)]
      have hpd := hd2.ne hp
      refine q p _ (l.take r1) (k02.new hp) (hd2.upd_ne' hpd) hpd (by rw [upd_same]; simp) ((hls.sub (List.take_sublist r1 l)).mono (by omega) (by omega) (by omega))
    · refine ⟨_, .inl (SqL.of hf2), dp, (sL l).length, rfl, by omega, hd2, fun r4 H4 hr4 k4 hd4 => ?_⟩
      wtm_at "rd"
      rw [hll] at hr4
      obtain ⟨v, hv⟩ : ∃ v, l[r4]? = some v := ⟨_, List.getElem?_eq_getElem hr4⟩
      have hpv := hls.pc v (List.mem_of_getElem? hv)
      have hvs : (sL l)[r4]? = some (.str (S v)) := by rw [List.getElem?_map, hv]; rfl
      have hft : fp ≠ tp := (ne_of_none ht hfp).symm
      refine ⟨_, SqL.of (k4 _ _ htd ht2), _, atI_nat hvs, _, k4 _ _ hfd hf2, r1, hix, _, SqL.of (by rw [upd_ne hft.symm]; exact k4 _ _ htd ht2), _, atI_nat hus, _, upd_same, r4, ixN_nat (by rw [List.length_set]; omega), ?_⟩
      rw [upd_upd]
      have e : ((sL l).set r1 (.str (S v))).set r4 (.str (S u)) = sL ((l.set r1 v).set r4 u) := by simp [List.map_set]
      rw [e]
      exact fin _ _ k4 hd4 (((hls.set r1 hpv).set r4 hpu).mono (by omega) (by omega) (by omega))
    · refine ⟨dp, mp, _, rfl, hm2, hmd, hm2', hd2, fun v H3 hv k3 hd3 => ?_⟩
      obtain ⟨x, hx, rfl⟩ := List.mem_map.mp hv
      refine ⟨_, k3 _ _ hfd hf2, r1, hix, ?_⟩
      have e : (sL l).set r1 (.str (S x)) = sL (l.set r1 x) := by simp [List.map_set]
      rw [e]
      exact fin _ _ k3 hd3 ((hls.set r1 ((hmp x hx).mono (Nat.zero_le b))).mono (by omega) (by omega) (by omega))
    · refine ⟨_, SqL.of hf2, _, atI_nat hus, dp, u, b, rfl, hd2, hpu, by omega, fun v H3 hv k3 hd3 => ?_⟩
      wtm_at "rd"
      refine ⟨_, k3 _ _ hfd hf2, r1, hix, ?_⟩
      have e : (sL l).set r1 (.str (S v)) = sL (l.set r1 v) := by simp [List.map_set]
      rw [e]
      exact fin _ _ k3 hd3 (((hls.mono (Nat.le_succ b) (Nat.le_refl _) (Nat.le_refl _)).set r1 hv).mono (by omega) (by omega) (by omega))
end
end K26

end
section
set_option linter.all false
set_option maxRecDepth 100000
set_option maxHeartbeats 4000000
namespace K26
open PySem PySem.Spec PyProof.Rows L2
open SX (S S_len S_cat S_inj)
open PySem.NumText
local macro_rules | `(tactic| wtm_at "rd") => `(tactic| try simp only [tSeq, tAsg, tVar, tC, gName, tRet, tRetN, tIfS, tNext, tDrop, tOp, tUn, rI0, rI, rU, tTest, tB, tAnd, tOr, tNot, tAndV, tOrV, tNotV, tIf, tCB, tCons, tNil, tTup, tLst, tCall, tSl, tPart, tNoPart, tBM, tBM0, gTup, gCons, gNil, gSub, tAug, ipI, rEq, rNe, sc_ii, sc_ss, sc_bb, sc_nn, sc_is, sc_si, sc_ns, sc_sn, sc_ni, sc_in, z0, z1, z2, z3, z4, z5, if_true, if_false, Bool.not_eq_true', decide_eq_false_iff_not, rIxS, rSlS, rSlL, tAugS, rGetL, cast1, rIxL, rIxT, rSetL, rAppend, rPop, rPopAt, rReverse, rCat, tYes, iRng1, iRng2, tMkBad, rIn, tFld, sFld, sFldAug, rAdd, tMeth, tMake, tCallS, tBadF, tM1, iList, iTup, iEnum, iEnumT, iStr, tBreak, C8.tCut, tFor_eq, tLc_eq, wipe_1,
  L2.start, List.map_cons, List.map_nil, List.cons_append, List.nil_append, List.append_nil, List.length_cons, List.length_nil, Nat.reduceAdd, Nat.reduceSub, List.replicate_succ, List.replicate_zero,
  List.getElem?_cons_succ, List.getElem?_cons_zero, List.set_cons_succ, List.set_cons_zero, Option.some.injEq, V.int.injEq, V.str.injEq, V.ref.injEq, V.bl.injEq, List.cons.injEq, and_assoc, and_true, true_and, exists_eq_left', exists_eq_left, exists_and_left, exists_and_right, exists_eq, decide_eq_true_eq, reduceCtorEq, false_and, and_false, exists_false, false_or, or_false, S_len, S_eq, k0, k1, k2, k3, k4, k5, k6, k7, k8, k9, k10, k11, k12, k13, k14, k15, k16, k17, k18, k19, k20, k21, k22, k23, k24, k25, k26, k27, k28, k29, k30, k31, k32, k33, k34, k35, k36, k37, k38, k39, k40, k41, k42, k43, k44, k45, k46, k47, k48, k49, k50, k51, k52, k53, Nat.zero_add])

section
def pcB (u : List Nat) : Bool := (u.all (fun c => !isD c) || ((u.all isD || (u.head? == some 45 && u.tail.all isD)) && decide (u.length ≤ 100))) && (decide (oc u ≤ 1) && (decide (u.length ≤ 2000) && u.all fun c => decide (c < 1114112)))
theorem Pc.lit {u : List Nat} (h : pcB u = true) : Pc 0 u := by
  unfold pcB at h
  rw [Bool.and_eq_true, Bool.and_eq_true, Bool.and_eq_true, Bool.or_eq_true, Bool.and_eq_true, Bool.or_eq_true, Bool.and_eq_true] at h
  obtain ⟨h1, h2, h3, h6⟩ := h
  refine ⟨?_, of_decide_eq_true h2, of_decide_eq_true h3, fun c hc => of_decide_eq_true (List.all_eq_true.mp h6 c hc)⟩
  rcases h1 with h1 | ⟨h1 | ⟨h1, h4⟩, h5⟩
  · exact .inl fun c hc => by simpa using List.all_eq_true.mp h1 c hc
  · exact .inr ⟨.inl (List.all_eq_true.mp h1), of_decide_eq_true h5⟩
  · refine .inr ⟨.inr ⟨u.tail, ?_, List.all_eq_true.mp h4⟩, of_decide_eq_true h5⟩
    cases u with
    | nil => simp at h1
    | cons c r =>
      have : c = 45 := by simpa using h1
      rw [this]; rfl
theorem lits {l : List (List Nat)} (h : l.all pcB = true) : ∀ u ∈ l, Pc 0 u := fun u hu => Pc.lit (List.all_eq_true.mp h u hu)
def menu1 : List (List Nat) := [[40], [41], [91], [93], [44], [59], [47], [42], [33], [116, 97, 98, 108, 101], [110, 111, 110, 101], [34], [34, 34], [34, 65, 34], [65], [45]]
def menu2 : List (List Nat) := [[48, 48], [48, 55], [45, 48], [45, 48, 55], [48], [45, 49], [56], [57], [49], [50], [120], [34, 120, 34]]
theorem pc_val {t : Tm} (h : VB t) : Pc 0 (txt (tokOf t)) := Pc.val h.1
variable {P : Program} {w : World} {K : PySem.W.Frag} {mg : Str → Option Value} {base : Heap} {CB fI : Addr}
def spMenu : Sp := fun vs H Q _ => ∃ (dp wp : Addr), vs = [.ref dp, .ref wp] ∧ Dr dp H ∧ WR dp H wp ∧ ∀ p H' m, Kp dp H H' → Dr dp H' → p ≠ dp → H' p = some (.lst (sL m)) → m ≠ [] → m.length ≤ 100 → (∀ u ∈ m, Pc 0 u) → Q (.ref p) H'
abbrev sc_l_menu_N : List Str := ["_law_draws_here", "_law_world_here", "_law_signs", "_law_found", "_law_value_here", "_law_table"]
abbrev sc_l_menu_P : List Str := ["_law_draws_here", "_law_world_here"]
abbrev sc_l_menu_s : Scope := defScope s_l_menu
theorem sc_l_menu : FnScope sc_l_menu_N sc_l_menu_P sc_l_menu_s := ⟨rfl, rfl, rfl, by decide +kernel, rfl, by decide +kernel, by decide +kernel⟩

theorem ok_menu (T : Txt K mg) : Cal P w K mg base CX0 3 "_law_menu" spMenu := by
  have c_l_pick : Cal P w K mg base CX0 2 "_law_pick" spPickS := ok_pickS T
  have c_l_value_text : Cal P w K mg base CX0 1 "_law_value_text" spVT := ok_value_text T
  refine cal0 T.f_l_menu T.g_l_menu sc_l_menu (fun _ _ _ _ _ _ us hl => match us, hl with | [_, _], _ => rfl) (fun vs H Q E h => ?_) (fun cdv A outer s H vs Q E hr h => ?_)
  · obtain ⟨dp, wp, rfl, _⟩ := h; rfl
  · obtain ⟨dp, wp, rfl, hd, hw, q⟩ := h
    refine ⟨_, (pss_cons (ps_set (i := 2) sc_l_menu.nd rfl (by first | exact Or.inl rfl | exact Or.inr rfl) pe_str)
      (pss_cons (ps_set (i := 3) sc_l_menu.nd rfl (by first | exact Or.inl rfl | exact Or.inr rfl) (pe_lst (pa_cons pe_str (pa_cons pe_str (pa_cons pe_str (pa_cons pe_str (pa_cons pe_str (pa_cons pe_str (pa_cons pe_str (pa_cons pe_str (pa_cons pe_str (pa_cons pe_str (pa_cons pe_str (pa_cons pe_str (pa_cons pe_str (pa_cons pe_str (pa_cons pe_str (pa_cons pe_str pa_nil))))))))))))))))))
      (pss_cons (ps_set (i := 3) sc_l_menu.nd rfl (by first | exact Or.inl rfl | exact Or.inr rfl) (pe_op op_cat (pv 3) (pe_lst (pa_cons pe_str (pa_cons pe_str (pa_cons pe_str (pa_cons pe_str (pa_cons pe_str (pa_cons pe_str (pa_cons pe_str (pa_cons pe_str (pa_cons pe_str (pa_cons pe_str (pa_cons pe_str (pa_cons pe_str (pa_cons (pe_c c_l_pick hr (pa_cons (pv 0) (pa_cons (pv 2) pa_nil))) pa_nil))))))))))))))))
      (pss_cons (ps_for PassesOwn.never rfl (pi_list (pe_ix ix_list (pv 1) pe_int (fun _ _ => rfl))) (pg_name (i := 4) sc_l_menu.nd rfl (by first | exact Or.inl rfl | exact Or.inr rfl)) (pss_one (ps_expr (pe_bm PySem.F.plainAttrs_list PySem.F.slot_list_append PySem.F.type_list_append mt_append (pv 3) (pa_cons (pe_c c_l_value_text hr (pa_cons (pv 4) pa_nil)) pa_nil)))))
      (pss_one (ps_ret (pe_op op_cat (pe_op op_cat (pv 3) (pe_lc (own := [("_law_table", 5)]) (g := gName 5) (tt := tYes) rfl sc_l_menu.nd (pi_tup (pe_ix ix_list (pv 1) pe_int (fun _ _ => rfl))) (blkOk_by (own := [("_law_table", 5)]) (N := sc_l_menu_N) (sc := sc_l_menu_s) (by decide +kernel)) (fun _ _ _ _ _ => pg_name (i := 5) sc_l_menu.nd rfl (Or.inl rfl)) (fun _ _ _ _ _ => pts_nil) (fun _ _ _ _ _ => (pe_ix (kx_tup (K := K) rfl) (pv 5) pe_int (fun _ _ => rfl))))) (pe_callTy call_list_of (by rfl) T.b_list boot_list_ (pa_cons (pe_ix ix_list (pv 1) pe_int (fun _ _ => rfl)) pa_nil))))))))), ?_⟩
    obtain ⟨sch, ns, ts, hW, hO⟩ := hw.ex
    obtain ⟨sp, np, vp, sxs, h1, h2, h3, h4, h5, h6, h7, h8⟩ := hW.ex
    wtm_at "rd"
    refine ⟨le_line (by decide), fun p1 hp1 => ?_⟩
    have hp1d := hd.ne hp1
    have k1 := (Kp.refl dp H).new (o := .lst (sL menu1)) hp1
    refine ⟨dp, lawSigns, rfl, by decide, by decide, hd.upd_ne' hp1d, fun c H2 hc k2 hd2 => ?_⟩
    have k12 := k1.trans k2
    have hp12 : H2 p1 = some (.lst (sL menu1)) := k2 _ _ hp1d upd_same
    refine ⟨le_line (by decide), fun p3 hp3 => ?_⟩
    have s3 := same_new hp3 (.lst (sL (menu2 ++ [[c]])))
    refine ⟨sL menu1, s3 _ _ hp12, sL (menu2 ++ [[c]]), upd_same, le_line (by simp [menu1, menu2]), fun p4 hp4 => ?_⟩
    have s4 := same_new hp4 (.lst (sL menu1 ++ sL (menu2 ++ [[c]])))
    have s34 := s3.trans s4
    have hd3 := hd2.upd_ne' (o := .lst (sL (menu2 ++ [[c]]))) (hd2.ne hp3)
    have hp4d := hd3.ne hp4
    have hd4 := hd3.upd_ne' (o := .lst (sL menu1 ++ sL (menu2 ++ [[c]]))) hp4d
    have k4 := k12.trans (Kp.same s34)
    have h44 : upd (upd H2 p3 (.lst (sL (menu2 ++ [[c]])))) p4 (.lst (sL menu1 ++ sL (menu2 ++ [[c]]))) p4 = some (.lst (sL (menu1 ++ (menu2 ++ [[c]])))) := by rw [upd_same]; simp
    have hall : ∀ u ∈ menu1 ++ (menu2 ++ [[c]]), Pc 0 u := fun u hu => by
      rcases List.mem_append.mp hu with hu | hu
      · exact lits (l := menu1) (by decide) u hu
      · rcases List.mem_append.mp hu with hu | hu
        · exact lits (l := menu2) (by decide) u hu
        · rw [List.mem_singleton.mp hu]; exact Pc.one c ((by decide : ∀ c ∈ lawSigns, c < 1114112) c hc)
    have hpH : H p4 = none := (k12.trans (Kp.same s3)).none_of hp4 hp4d
    refine ⟨_, SqL.of (k4 _ _ h8 h1), _, atI_nat (j := 2) rfl, vp, rfl, ⟨_, SqL.of (k4 _ _ h7 h5)⟩, ?_⟩
    have htl := hO.tl
    obtain ⟨Pv, hPv⟩ := opq3 fun i σ H' => ∃ (m : List (List Nat)) (u4 : Option V), Kp dp H H' ∧ Dr dp H' ∧ H' p4 = some (.lst (sL m)) ∧ m ≠ [] ∧ m.length ≤ 29 + i ∧ (∀ u ∈ m, Pc 0 u) ∧ σ = [some (.ref dp), some (.ref wp), some (.str (S lawSigns)), some (.ref p4), u4, none]
    refine forb (walk_list (xs := vL ts)) Pv ((hPv _ _ _).mpr ⟨menu1 ++ (menu2 ++ [[c]]), none, k4, hd4, h44, by simp, by simp [menu1, menu2], hall, rfl⟩) (fun i σ H' pv => ?_) (fun i x σ H' H5 hi pv y => ?_) (fun σ H' pv => ?_)
    · obtain ⟨_, _, k, _⟩ := (hPv _ _ _).mp pv
      exact SqL.of (k _ _ h7 h5)
    · obtain ⟨m, u4, k5, hd5, hm5, hm0, hml, hmp, rfl⟩ := (hPv _ _ _).mp pv
      obtain ⟨rfl, hx⟩ := y
      rw [List.getElem?_map] at hx
      obtain ⟨t, ht, rfl⟩ := Option.map_eq_some_iff.mp hx
      have htv := hO.tv t (List.mem_of_getElem? ht)
      rw [List.length_map, htl] at hi
      wtm_at "rd"
      refine ⟨tyL hm5, t, htv.2, rfl, htv.1.tmB, _, hm5, lt_line (by simp; omega), ?_⟩
      have e : sL m ++ [V.str (S (txt (tokOf t)))] = sL (m ++ [txt (tokOf t)]) := by simp
      rw [e]
      refine (hPv _ _ _).mpr ⟨m ++ [txt (tokOf t)], _, k5.mutn hpH, hd5.upd_ne' hp4d, upd_same, by simp, by simp; omega, fun u hu => ?_, rfl⟩
      rcases List.mem_append.mp hu with hu | hu
      · exact hmp u hu
      · rw [List.mem_singleton.mp hu]; exact pc_val htv
    · obtain ⟨m, u4, k5, hd5, hm5, hm0, hml, hmp, rfl⟩ := (hPv _ _ _).mp pv
      rw [List.length_map, htl] at hml
      wtm_at "rd"
      have kt5 := KT.dr k5 hd
      have h2' := kt5 _ _ h2
      have h3' := h3.kt kt5
      have hsl : sxs.length = sch.length := h3.length
      have hl4 := hO.l1
      have hnl := hO.nl
      have h15 := k5 _ _ h8 h1
      have h45 := k5 _ _ h6 h4
      refine ⟨_, SqL.of h15, _, atI_nat (j := 0) rfl, sp, rfl, ⟨_, SqT.of h2'⟩, ?_⟩
      refine lcb (walk_tup (xs := sxs)) (fun D i H2 => H2 = upd H' D (.lst ((sL (sch.map fun n => n.1)).take i))) (fun D hD => rfl) (fun D i H2 hD e => ?_) (fun D i v H3 H4 hD hi e y => ?_) (fun D H2 hD e => ?_)
      · rw [e]; exact SqT.of (by rw [upd_ne (ne_of_none h2' hD)]; exact h2')
      · obtain ⟨rfl, hv⟩ := y
        subst e
        obtain ⟨n, hn⟩ : ∃ n, sch[i]? = some n := ⟨_, List.getElem?_eq_getElem (by omega)⟩
        obtain ⟨v', hv', a, e1, e2⟩ := pr_get h3' hn
        rw [hv] at hv'
        cases hv'
        subst e1
        wtm_at "rd"
        refine ⟨_, SqT.of (by rw [upd_ne (ne_of_none e2 hD)]; exact e2), _, rfl, ?_⟩
        exact acc_next (by rw [List.getElem?_map, List.getElem?_map, hn]; rfl) (by simp; omega) (fun H' => H' = _) rfl
      · rw [List.take_of_length_le (by simp; omega)] at e
        subst e
        have hDd := hd5.ne hD
        have sD := same_new hD (.lst (sL (sch.map fun n => n.1)))
        have hd6 := hd5.upd_ne' (o := .lst (sL (sch.map fun n => n.1))) hDd
        wtm_at "rd"
        refine ⟨_, sD _ _ hm5, _, upd_same, le_line (by simp; omega), fun p6 hp6 => ?_⟩
        have s6 := same_new hp6 (.lst (sL m ++ sL (sch.map fun n => n.1)))
        have hd7 := hd6.upd_ne' (o := .lst (sL m ++ sL (sch.map fun n => n.1))) (hd6.ne hp6)
        have s56 := sD.trans s6
        refine ⟨_, SqL.of (s56 _ _ h15), _, atI_nat (j := 1) rfl, np, rfl, _, .inl (SqL.of (s56 _ _ h45)), fun p7 hp7 => ?_⟩
        have s7 := same_new hp7 (.lst (sL ns))
        have hd8 := hd7.upd_ne' (o := .lst (sL ns)) (hd7.ne hp7)
        refine ⟨_, s7 _ _ upd_same, _, upd_same, le_line (by simp; omega), fun p8 hp8 => ?_⟩
        have hp8d := hd8.ne hp8
        refine q p8 _ (m ++ sch.map (fun n => n.1) ++ ns) ((k5.trans (Kp.same (s56.trans s7))).new hp8) (hd8.upd_ne' hp8d) hp8d (by rw [upd_same]; simp) (by simp [hm0]) (by simp; omega) fun u hu => ?_
        rcases List.mem_append.mp hu with hu | hu
        · rcases List.mem_append.mp hu with hu | hu
          · exact hmp u hu
          · obtain ⟨n, hn, rfl⟩ := List.mem_map.mp hu
            have := hO.sc n hn
            exact Pc.word this.1 (by omega)
        · have := hO.nw u hu
          exact Pc.word this.1 (by omega)
end
end K26

end
section
set_option linter.all false
set_option maxRecDepth 100000
set_option maxHeartbeats 4000000
namespace K26
open PySem PySem.Spec PyProof.Rows L2
open SX (S S_len S_cat S_inj)
open PySem.NumText
/-! ### runs over two pieces -/
def DigN (m : Nat) (l : List Nat) : Prop := ∀ k, ((l.drop k).takeWhile isD).length ≤ m
theorem DigN.app {m n : Nat} {a b : List Nat} (ha : DigN m a) (hb : DigN n b) : DigN (m + n) (a ++ b) := by
  intro k
  by_cases hk : k < a.length
  · rw [List.drop_append_of_le_length (by omega), tw_app]
    have h1 := ha k
    have h2 := hb 0
    rw [List.drop_zero] at h2
    by_cases hall : (a.drop k).all isD = true
    · rw [if_pos hall, List.length_append]
      have e : (a.drop k).takeWhile isD = a.drop k := by
        have := tw_app (p := isD) (a.drop k) []
        rw [if_pos hall, List.append_nil] at this
        simpa using this
      rw [e] at h1
      omega
    · rw [if_neg hall]; omega
  · rw [List.drop_append, List.drop_eq_nil_of_le (by omega), List.nil_append]
    have := hb (k - a.length)
    omega
theorem Pc.digN {b : Nat} {u : List Nat} (h : Pc b u) (hb : b ≤ 9) : DigN 118 u := fun k => by
  rcases h.sh with h | ⟨_, h⟩
  · cases hx : u.drop k with
    | nil => simp
    | cons c r =>
      rw [List.takeWhile_cons, h c (List.mem_of_mem_drop (by rw [hx]; exact List.mem_cons_self))]
      simp
  · have := run_len isD (u.drop k)
    rw [List.length_drop] at this
    omega
/-- the chars of the tokens are chars of the text -/
theorem toks_ch {B : Nat} (hB : 32 < B) : ∀ (m off : Nat) (s : List Nat), s.length ≤ m → (∀ c ∈ s, c < B) → ∀ t ∈ toks off s, ∀ c ∈ txt t.2, c < B
  | m, off, s, hm, hs => by
    intro t ht c hc
    cases h : s.drop (spn s) with
    | nil =>
      rw [toks_nil h] at ht
      rw [List.mem_singleton.mp ht] at hc
      cases hc
    | cons d r =>
      cases h' : lex d r with
      | none =>
        rw [toks_bad h h'] at ht
        rw [List.mem_singleton.mp ht] at hc
        rw [List.mem_singleton.mp hc]
        exact hB
      | some p =>
        obtain ⟨t', n⟩ := p
        have hl := lex_len h'
        have h2 : 0 < (s.drop (spn s)).length := by rw [h]; simp
        rw [List.length_drop] at h2
        rw [toks_cons h h'] at ht
        rcases List.mem_cons.mp ht with e | ht
        · rw [e] at hc
          change c ∈ txt t' at hc
          rw [(lex_txt h').1, ← h] at hc
          exact hs c (List.mem_of_mem_drop (List.mem_of_mem_take hc))
        · cases m with
          | zero => omega
          | succ m => exact toks_ch hB m _ _ (by rw [List.length_drop]; omega) (fun c hc => hs c (List.mem_of_mem_drop hc)) t ht c hc
/-! ### lists of texts as data -/
theorem dpAll_sL {K : PySem.W.Frag} {H : Hp} : ∀ l : List (List Nat), DpAll K H (sL l) (l.map fun u => PyData.str (S u))
  | [] => .nil
  | u :: r => .cons (.str _) (dpAll_sL r)
theorem strOk_S {u : List Nat} (h : ∀ c ∈ u, c < 1114112) : PyData.strOk (S u) = true := by
  unfold PyData.strOk
  show (u.toArray.all fun x => decide (x < 0x110000)) = true
  rw [List.all_toArray, List.all_eq_true]
  exact fun c hc => decide_eq_true (h c hc)
theorem lay_sL : ∀ {l : List (List Nat)}, (∀ u ∈ l, ∀ c ∈ u, c < 1114112) → PyData.canLayAll0 (l.map fun u => PyData.str (S u)) = true
  | [], _ => rfl
  | u :: r, h => by
    show (PyData.strOk (S u) && PyData.canLayAll0 (r.map fun u => PyData.str (S u))) = true
    rw [strOk_S (h u List.mem_cons_self), lay_sL fun v hv => h v (List.mem_cons_of_mem _ hv)]; rfl
theorem dep_sL : ∀ l : List (List Nat), PyData.depthAll (l.map fun u => PyData.str (S u)) = 0
  | [] => rfl
  | u :: r => by
    show max 0 (PyData.depthAll (r.map fun u => PyData.str (S u))) = 0
    rw [dep_sL r]; rfl
theorem shaped_sL {l : List (List Nat)} (h : ∀ u ∈ l, ∀ c ∈ u, c < 1114112) : SeqAt.shaped (.list (l.map fun u => PyData.str (S u))) = true := by
  show (PyData.canLayAll0 (l.map fun u => PyData.str (S u)) && decide (PyData.depthAll (l.map fun u => PyData.str (S u)) + 1 ≤ 64)) = true
  rw [lay_sL h, dep_sL]; rfl
theorem eqvAll_sL : ∀ l m : List (List Nat), PyData.eqvAll (l.map fun u => PyData.str (S u)) (m.map fun u => PyData.str (S u)) = decide (l = m)
  | [], [] => rfl
  | [], _ :: _ => rfl
  | _ :: _, [] => rfl
  | u :: l, v :: m => by
    show (S u == S v && PyData.eqvAll (l.map fun u => PyData.str (S u)) (m.map fun u => PyData.str (S u))) = _
    rw [eqvAll_sL l m]
    by_cases e : u = v
    · subst e; simp
    · have : (S u == S v) = false := by simpa using fun z => e (S_inj z)
      rw [this]; simp [e]
end K26

end
section
set_option linter.all false
set_option maxRecDepth 100000
set_option maxHeartbeats 4000000
namespace K26
open PySem PySem.Spec PyProof.Rows L2
open SX (S S_len S_cat S_inj)
open PySem.NumText
local macro_rules | `(tactic| wtm_at "rd") => `(tactic| try simp only [tSeq, tAsg, tVar, tC, gName, tRet, tRetN, tIfS, tNext, tDrop, tOp, tUn, rI0, rI, rU, tTest, tB, tAnd, tOr, tNot, tAndV, tOrV, tNotV, tIf, tCB, tCons, tNil, tTup, tLst, tCall, tSl, tPart, tNoPart, tBM, tBM0, gTup, gCons, gNil, gSub, tAug, ipI, rEq, rNe, sc_ii, sc_ss, sc_bb, sc_nn, sc_is, sc_si, sc_ns, sc_sn, sc_ni, sc_in, z0, z1, z2, z3, z4, z5, if_true, if_false, Bool.not_eq_true', decide_eq_false_iff_not, rIxS, rSlS, rSlL, tAugS, rGetL, cast1, rIxL, rIxT, rSetL, rAppend, rPop, rPopAt, rReverse, rCat, tYes, iRng1, iRng2, tMkBad, rIn, tFld, sFld, sFldAug, rAdd, tMeth, tMake, tCallS, tBadF, tM1, iList, iTup, iEnum, iEnumT, iStr, tBreak, C8.tCut, tFor_eq, tLc_eq, wipe_1,
  L2.start, List.map_cons, List.map_nil, List.cons_append, List.nil_append, List.append_nil, List.length_cons, List.length_nil, Nat.reduceAdd, Nat.reduceSub, List.replicate_succ, List.replicate_zero,
  List.getElem?_cons_succ, List.getElem?_cons_zero, List.set_cons_succ, List.set_cons_zero, Option.some.injEq, V.int.injEq, V.str.injEq, V.ref.injEq, V.bl.injEq, List.cons.injEq, and_assoc, and_true, true_and, exists_eq_left', exists_eq_left, exists_and_left, exists_and_right, exists_eq, decide_eq_true_eq, reduceCtorEq, false_and, and_false, exists_false, false_or, or_false, S_len, S_eq, k0, k1, k2, k3, k4, k5, k6, k7, k8, k9, k10, k11, k12, k13, k14, k15, k16, k17, k18, k19, k20, k21, k22, k23, k24, k25, k26, k27, k28, k29, k30, k31, k32, k33, k34, k35, k36, k37, k38, k39, k40, k41, k42, k43, k44, k45, k46, k47, k48, k49, k50, k51, k52, k53, Nat.zero_add])

section
variable {P : Program} {w : World} {K : PySem.W.Frag} {mg : Str → Option Value} {base : Heap} {CB fI : Addr}
def gapT (g : List Nat) : Bool := g.all (fun c => !isD c) && (decide (g.length ≤ 3) && decide (oc g = 0))
theorem gapB {g : List Nat} (h : gapT g = true) : isO g ∧ g.length ≤ 3 ∧ oc g = 0 := by
  unfold gapT at h
  rw [Bool.and_eq_true, Bool.and_eq_true] at h
  exact ⟨fun c hc => by simpa using List.all_eq_true.mp h.1 c hc, of_decide_eq_true h.2.1, of_decide_eq_true h.2.2⟩
def spLoose : Sp := fun vs H Q _ => ∃ (dp tp : Addr) (l : List (List Nat)) (b W O : Nat), vs = [.ref dp, .ref tp] ∧ Dr dp H ∧ H tp = some (.lst (sL l)) ∧ tp ≠ dp ∧ Ls b W O l ∧ W ≤ 900000 ∧ b ≤ 9 ∧
  ∀ t H', Kp dp H H' → Dr dp H' → t.length ≤ 1000000 → DigOk t → oc t ≤ O → Q (.str (S t)) H'
abbrev sc_l_loose_N : List Str := ["_law_draws_here", "_law_texts", "_law_line", "_law_k", "_law_gap", "_law_apart", "_law_pair"]
abbrev sc_l_loose_P : List Str := ["_law_draws_here", "_law_texts"]
abbrev sc_l_loose_s : Scope := defScope s_l_loose
theorem sc_l_loose : FnScope sc_l_loose_N sc_l_loose_P sc_l_loose_s := ⟨rfl, rfl, rfl, by decide +kernel, rfl, by decide +kernel, by decide +kernel⟩

theorem ok_loose (T : Txt K mg) : Cal P w K mg base CX0 4 "_law_loose" spLoose := by
  have c_l_take : Cal P w K mg base CX0 1 "_law_take" spTakeN := ok_takeN T
  have c_l_tokens : Cal P w K mg base CX0 3 "_law_tokens" spToks := ok_tokens T
  refine cal0 T.f_l_loose T.g_l_loose sc_l_loose (fun _ _ _ _ _ _ us hl => match us, hl with | [_, _], _ => rfl) (fun vs H Q E h => ?_) (fun cdv A outer s H vs Q E hr h => ?_)
  · obtain ⟨dp, tp, l, b, W, O, rfl, _⟩ := h; rfl
  · obtain ⟨dp, tp, l, b, W, O, rfl, hd, ht, htd, hls, hW, hb, q⟩ := h
    refine ⟨_, (pss_cons (ps_set (i := 2) sc_l_loose.nd rfl (by first | exact Or.inl rfl | exact Or.inr rfl) (pe_ix ix_list (pe_lst (pa_cons pe_str (pa_cons pe_str (pa_cons pe_str (pa_cons pe_str pa_nil))))) (pe_c c_l_take hr (pa_cons (pv 0) (pa_cons pe_int pa_nil))) (fun _ _ => rfl)))
      (pss_cons (ps_for PassesOwn.never rfl (pi_range1 (by rfl) T.b_range (pa_cons (pe_callB call_len_seq (by rfl) T.b_len boot_len (pa_cons (pv 1) pa_nil)) pa_nil)) (pg_name (i := 3) sc_l_loose.nd rfl (by first | exact Or.inl rfl | exact Or.inr rfl)) (pss_cons (ps_set (i := 4) sc_l_loose.nd rfl (by first | exact Or.inl rfl | exact Or.inr rfl) (pe_ix ix_list (pe_lst (pa_cons pe_str (pa_cons pe_str (pa_cons pe_str (pa_cons pe_str (pa_cons pe_str pa_nil)))))) (pe_c c_l_take hr (pa_cons (pv 0) (pa_cons pe_int pa_nil))) (fun _ _ => rfl)))
      (C8.pss_cut (ps_if (PW.pt (pw_and (pt_cmpR op_gt (pv 3) pe_int (nomark _)) (pw_and1 (pt_cmpR op_eq (pv 4) pe_str (nomark _))))) (pss_cons (ps_setLc (i := 5) (own := [("_law_pair", 6)]) (g := gName 6) (tt := tYes) rfl sc_l_loose.nd rfl rfl (sw_true rfl rfl rfl (by decide +kernel)) (pi_list (pe_c c_l_tokens hr (pa_cons (pe_op op_add_str (pe_ix ix_list (pv 1) (pe_op op_sub (pv 3) pe_int) (fun _ _ => rfl)) (pe_ix ix_list (pv 1) (pv 3) (fun _ _ => rfl))) pa_nil))) (blkOk_by (own := [("_law_pair", 6)]) (N := sc_l_loose_N) (sc := sc_l_loose_s) (by decide +kernel)) (fun _ _ _ _ _ => pg_name (i := 6) sc_l_loose.nd rfl (Or.inl rfl)) (fun _ _ _ _ _ => pts_nil) (fun _ _ _ _ _ => (pe_ix (kx_tup (K := K) rfl) (pv 6) pe_int (fun _ _ => rfl))))
      (pss_one (ps_if (pt_cmpR (op_neD hr.units) (pv 5) (pe_lst (pa_cons (pe_ix ix_list (pv 1) (pe_op op_sub (pv 3) pe_int) (fun _ _ => rfl)) (pa_cons (pe_ix ix_list (pv 1) (pv 3) (fun _ _ => rfl)) (pa_cons pe_str pa_nil)))) (nomark _)) (pss_one (ps_set (i := 4) sc_l_loose.nd rfl (by first | exact Or.inl rfl | exact Or.inr rfl) pe_str)) pss_nil))) pss_nil)
      (C8.pss_cut (ps_if (pt_cmpR op_gt (pv 3) pe_int (nomark _)) (pss_one (ps_set (i := 2) sc_l_loose.nd rfl (by first | exact Or.inl rfl | exact Or.inr rfl) (pe_op op_add_str (pv 2) (pv 4)))) pss_nil)
      (pss_one (ps_set (i := 2) sc_l_loose.nd rfl (by first | exact Or.inl rfl | exact Or.inr rfl) (pe_op op_add_str (pv 2) (pe_ix ix_list (pv 1) (pv 3) (fun _ _ => rfl)))))))))
      (pss_one (ps_ret (pe_op op_add_str (pv 2) (pe_ix ix_list (pe_lst (pa_cons pe_str (pa_cons pe_str (pa_cons pe_str (pa_cons pe_str pa_nil))))) (pe_c c_l_take hr (pa_cons (pv 0) (pa_cons pe_int pa_nil))) (fun _ _ => rfl))))))), ?_⟩
    have hwl := wt_len l
    have hwW := hls.wt
    have hsl : (sL l).length = l.length := List.length_map _
    wtm_at "rd"
    intro p1 hp1
    have hp1d := hd.ne hp1
    have k1 := (Kp.refl dp H).new (o := .lst (sL [[], [32], [], [32, 32, 32]])) hp1
    refine ⟨dp, 4, rfl, by decide, hd.upd_ne' hp1d, fun r H2 hr4 k2 hd2 => ?_⟩
    obtain ⟨g0, hg0, hat0⟩ := litS_at (us := [[], [32], [], [32, 32, 32]]) (r := r) hr4
    have hgs : ∀ g ∈ [[], [32], [], [32, 32, 32]], isO g ∧ g.length ≤ 3 ∧ oc g = 0 := fun g hg => gapB ((by decide : ∀ g ∈ [[], [32], [], [32, 32, 32]], gapT g = true) g hg)
    obtain ⟨ho0, hl0, hc0⟩ := hgs _ hg0
    have k12 := k1.trans k2
    have ht2 := k12 _ _ htd ht
    refine ⟨_, _, rfl, SqL.of (k2 _ _ hp1d upd_same), _, atI_nat hat0, _, .inl (SqL.of ht2), by omega, by omega, ?_⟩
    rw [hsl, Int.toNat_natCast]
    obtain ⟨Pv, hPv⟩ := opq3 fun k σ H' => ∃ (t : List Nat) (u3 u4 u5 : Option V), Kp dp H H' ∧ Dr dp H' ∧ t.length ≤ wt (l.take k) + 3 ∧ DigOk t ∧ oc t ≤ ocs (l.take k) ∧ (k = 0 → isO t) ∧ (∀ j u, k = j + 1 → l[j]? = some u → u ≠ [] → t.getLast? = u.getLast?) ∧
      σ = [some (.ref dp), some (.ref tp), some (.str (S t)), u3, u4, u5, none]
    refine forb (walk_range (lo := 0) (n := l.length)) Pv ((hPv _ _ _).mpr ⟨g0, none, none, none, k12, hd2, by omega, digOk_isO ho0, by omega, fun _ => ho0, fun j u e => by omega, rfl⟩) (fun _ _ _ _ => trivial) (fun k x σ H3 H4 hk pv y => ?_) (fun σ H3 pv => ?_)
    · obtain ⟨t, u3, u4, u5, k3, hd3, htl, htk, hto, ht0, htp, rfl⟩ := (hPv _ _ _).mp pv
      obtain ⟨rfl, rfl⟩ := y
      obtain ⟨u, hu⟩ : ∃ u, l[k]? = some u := ⟨_, List.getElem?_eq_getElem hk⟩
      have hpu := hls.pc u (List.mem_of_getElem? hu)
      have hul := hpu.len
      have hus : (sL l)[k]? = some (.str (S u)) := by rw [List.getElem?_map, hu]; rfl
      have hwt1 : wt (l.take (k + 1)) = wt (l.take k) + (u.length + 3) := by
        rw [List.take_add_one, hu, wt_app]; rfl
      have hoc1 : ocs (l.take (k + 1)) = ocs (l.take k) + oc u := by
        rw [List.take_add_one, hu, ocs_app]; rfl
      have hwle : wt (l.take (k + 1)) ≤ W := Nat.le_trans (wt_sub (List.take_sublist _ _)) hwW
      have fin : ∀ (g : List Nat) (H' : Hp) (u4 u5 : Option V), Kp dp H H' → Dr dp H' → isO g → g.length ≤ 3 → oc g = 0 → (k = 0 → g = []) → (g = [] → ∀ c d, t.getLast? = some c → isD c = true → u.head? = some d → isD d = false) →
          Pv (k + 1) [some (.ref dp), some (.ref tp), some (.str (S ((t ++ g) ++ u))), some (.int (k : Int)), u4, u5, none] H' := fun g H' u4 u5 kk dd ho hl hc hz hseam => by
        refine (hPv _ _ _).mpr ⟨(t ++ g) ++ u, _, u4, u5, kk, dd, by simp only [List.length_append]; omega, ?_, by rw [oc_app, oc_app]; omega, fun e => by omega, fun j v e hv hne => ?_, rfl⟩
        · refine DigOk.app (DigOk.app htk (digOk_isO ho) fun c d _ _ hd => ho d (List.mem_of_mem_head? hd)) (hpu.digOk (by omega)) fun c d hc hcd hd => ?_
          by_cases hg : g = []
          · subst hg
            rw [List.append_nil] at hc
            exact hseam rfl c d hc hcd hd
          · rw [List.getLast?_append] at hc
            obtain ⟨z, hz⟩ : ∃ z, g.getLast? = some z := by
              cases h : g.getLast? with
              | none => exact absurd (List.getLast?_eq_none_iff.mp h) hg
              | some z => exact ⟨z, rfl⟩
            rw [hz] at hc
            have : z = c := by simpa using hc
            have := ho z (List.mem_of_getLast? hz)
            simp_all
        · have : j = k := by omega
          subst this
          rw [hu] at hv
          cases hv
          rw [List.getLast?_append]
          cases h : u.getLast? with
          | none => exact absurd (List.getLast?_eq_none_iff.mp h) hne
          | some z => rfl
      have ht3 := k3 _ _ htd ht
      wtm_at "rd"
      intro p5 hp5
      have hp5d := hd3.ne hp5
      have k5 := k3.new (o := .lst (sL [[], [32], [], [32, 32], [32]])) hp5
      refine ⟨dp, 5, rfl, by decide, hd3.upd_ne' hp5d, fun r5 H5 hr5 k55 hd5 => ?_⟩
      obtain ⟨g, hg, hat⟩ := litS_at (us := [[], [32], [], [32, 32], [32]]) (r := r5) hr5
      have hgg : isO g ∧ g.length ≤ 3 ∧ oc g = 0 := gapB ((by decide : ∀ g ∈ [[], [32], [], [32, 32], [32]], gapT g = true) g hg)
      obtain ⟨hog, hlg, hcg⟩ := hgg
      have k35 := k5.trans k55
      have ht5 := k35 _ _ htd ht
      refine ⟨_, _, rfl, SqL.of (k55 _ _ hp5d upd_same), _, atI_nat hat, ?_⟩
      obtain ⟨Mid, hMid⟩ : ∃ Mid : L2.St → Hp → Prop, ∀ σ H', Mid σ H' ↔ ∃ (g' : List Nat) (u5 : Option V), Kp dp H H' ∧ Dr dp H' ∧ isO g' ∧ g'.length ≤ 3 ∧ oc g' = 0 ∧ (0 < k → g' = [] → ∀ c d, t.getLast? = some c → isD c = true → u.head? = some d → isD d = false) ∧ σ = [some (.ref dp), some (.ref tp), some (.str (S t)), some (.int (k : Int)), some (.str (S g')), u5, none] := ⟨_, fun _ _ => Iff.rfl⟩
      refine ⟨Mid, ?_, fun σ' H' hm => ?_⟩
      · wtm_at "rd"
        rw [Int.zero_add]
        have mid : ∀ (g' : List Nat) (H' : Hp) (u5 : Option V), Kp dp H H' → Dr dp H' → isO g' ∧ g'.length ≤ 3 ∧ oc g' = 0 → (0 < k → g' = [] → ∀ c d, t.getLast? = some c → isD c = true → u.head? = some d → isD d = false) → Mid [some (.ref dp), some (.ref tp), some (.str (S t)), some (.int (k : Int)), some (.str (S g')), u5, none] H' := fun g' H' u5 a b c d => (hMid _ _).mpr ⟨g', u5, a, b, c.1, c.2.1, c.2.2, d, rfl⟩
        refine ite2 (fun h0 => ?_) (fun h0 => mid _ _ _ k35 hd5 ⟨hog, hlg, hcg⟩ fun hk => by omega)
        refine ite2 (fun hg0 => ?_) (fun hg0 => mid _ _ _ k35 hd5 ⟨hog, hlg, hcg⟩ fun _ hk => absurd hk (by simpa using hg0))
        obtain ⟨j, rfl⟩ : ∃ j, k = j + 1 := ⟨k - 1, by omega⟩
        obtain ⟨pu, hpr⟩ : ∃ pu, l[j]? = some pu := ⟨_, List.getElem?_eq_getElem (by omega)⟩
        have hpp := hls.pc pu (List.mem_of_getElem? hpr)
        have hppl := hpp.len
        have hps : (sL l)[j]? = some (.str (S pu)) := by rw [List.getElem?_map, hpr]; rfl
        have hj : ((j + 1 : Nat) : Int) - 1 = (j : Int) := by omega
        rw [hj]
        refine ⟨_, SqL.of ht5, _, atI_nat hps, _, SqL.of ht5, _, atI_nat hus, _, rfl, _, rfl, le_line (by simp only [S_len]; omega), ?_⟩
        rw [S_cat]
        refine ⟨pu ++ u, rfl, by rw [List.length_append]; omega, fun z => Nat.le_trans (((hpp.digN hb).app (hpu.digN hb)) z) (by decide), fun p6 H6 xs s6 hp6 hx6 htx => ?_⟩
        have hd6 : Dr dp H6 := let ⟨ds, e⟩ := hd5; ⟨ds, s6 _ _ e⟩
        have k6 := k35.trans (Kp.same s6)
        have ht6 := k6 _ _ htd ht
        have hxl : xs.length = (toks 0 (pu ++ u)).length := htx.length
        refine ⟨_, rfl, ⟨_, SqL.of hx6⟩, ?_⟩
        refine lcb (walk_list (xs := xs)) (fun D i H' => H' = upd H6 D (.lst ((sL (texts (toks 0 (pu ++ u)))).take i))) (fun D hD => rfl) (fun D i H2 hD e => ?_) (fun D i v H3 H4 hD hi e y => ?_) (fun D H2 hD e => ?_)
        · rw [e]; exact SqL.of (by rw [upd_ne (ne_of_none hx6 hD)]; exact hx6)
        · obtain ⟨rfl, hv⟩ := y
          subst e
          obtain ⟨n, hn⟩ : ∃ n, (toks 0 (pu ++ u))[i]? = some n := ⟨_, List.getElem?_eq_getElem (by omega)⟩
          obtain ⟨v', hv', a, e1, e2⟩ := pr_get htx hn
          rw [hv] at hv'
          cases hv'
          subst e1
          wtm_at "rd"
          refine ⟨_, SqT.of (by rw [upd_ne (ne_of_none e2 hD)]; exact e2), _, rfl, ?_⟩
          have htl6 : (toks 0 (pu ++ u)).length ≤ 5000 := by
            have := toks_len _ 0 (pu ++ u) (Nat.le_refl _)
            rw [List.length_append] at this
            omega
          exact acc_next (by rw [List.getElem?_map, List.getElem?_map, hn]; rfl) (by simp only [List.length_map]; omega) (fun H' => H' = _) rfl
        · rw [List.take_of_length_le (by simp only [List.length_map]; omega)] at e
          subst e
          have hDd := hd6.ne hD
          have hd7 := hd6.upd_ne' (o := .lst (sL (texts (toks 0 (pu ++ u))))) hDd
          have k7 := k6.new (o := .lst (sL (texts (toks 0 (pu ++ u))))) hD
          have ht7 := k7 _ _ htd ht
          refine ⟨_, SqL.of ht7, _, atI_nat hps, _, SqL.of ht7, _, atI_nat hus, fun p8 hp8 => ?_⟩
          have hd8 := hd7.upd_ne' (o := .lst (sL [pu, u, []])) (hd7.ne hp8)
          have k8 := k7.new (o := .lst (sL [pu, u, []])) hp8
          have hch : ∀ c ∈ pu ++ u, c < 1114112 := ch_app hpp.ch hpu.ch
          refine ⟨.list ((texts (toks 0 (pu ++ u))).map fun u => PyData.str (S u)), .list ([pu, u, []].map fun u => PyData.str (S u)), .lst (SqL.of (by rw [upd_ne (ne_of_none upd_same hp8)]; exact upd_same)) (dpAll_sL _), .lst (SqL.of upd_same) (dpAll_sL [pu, u, []]), shaped_sL fun v hv => ?_, shaped_sL fun v hv => ?_, _, rfl, ite2 (fun hne => ?_) (fun heq => ?_)⟩
          · obtain ⟨n, hn, rfl⟩ := List.mem_map.mp hv
            exact toks_ch (by decide) _ 0 _ (Nat.le_refl _) hch n hn
          · simp only [List.mem_cons, List.not_mem_nil, or_false] at hv
            rcases hv with rfl | rfl | rfl
            · exact hpp.ch
            · exact hpu.ch
            · intro c hc; cases hc
          · exact mid [32] _ _ k8 hd8 (gapB (by decide)) fun _ z => by cases z
          · have hq : decide (texts (toks 0 (pu ++ u)) = [pu, u, []]) = true := by
              rw [← eqvAll_sL]
              cases h : PyData.eqvAll ((texts (toks 0 (pu ++ u))).map fun u => PyData.str (S u)) ([pu, u, []].map fun u => PyData.str (S u)) with
              | true => rfl
              | false =>
                exfalso
                apply heq
                show (!PyData.eqvAll _ _) = true
                rw [h]; rfl
            obtain ⟨hpne, hsm⟩ := toks_two (of_decide_eq_true hq)
            have hlast := htp j pu rfl hpr hpne
            refine mid _ _ _ k8 hd8 ⟨hog, hlg, hcg⟩ fun _ _ c d hc hcd hdd => ?_
            rw [hlast] at hc
            exact hsm c d hc hcd hdd
      · obtain ⟨g', u5', k6, hd6, ho6, hl6, hc6, hseam, rfl⟩ := (hMid _ _).mp hm
        have ht6 := k6 _ _ htd ht
        wtm_at "rd"
        refine ⟨fun σ H' => ∃ g, σ = [some (.ref dp), some (.ref tp), some (.str (S (t ++ g))), some (.int (k : Int)), some (.str (S g')), u5', none] ∧ Kp dp H H' ∧ Dr dp H' ∧ isO g ∧ g.length ≤ 3 ∧ oc g = 0 ∧ (k = 0 → g = []) ∧ (g = [] → ∀ c d, t.getLast? = some c → isD c = true → u.head? = some d → isD d = false), ite2 (fun h => ?_) (fun h => ?_), fun σ' H' hm => ?_⟩
        · refine ⟨le_line (by omega), g', by rw [S_cat], k6, hd6, ho6, hl6, hc6, fun e => by omega, hseam (by omega)⟩
        · have hk0 : k = 0 := by omega
          refine ⟨[], by rw [List.append_nil], k6, hd6, (by intro c hc; cases hc), by simp, rfl, fun _ => rfl, fun _ c d hc hcd => ?_⟩
          have := ht0 hk0 c (List.mem_of_getLast? hc)
          simp_all
        · obtain ⟨g, rfl, k7, hd7, ho7, hl7, hc7, hz7, hs7⟩ := hm
          have ht7 := k7 _ _ htd ht
          wtm_at "rd"
          refine ⟨_, SqL.of ht7, _, atI_nat hus, _, rfl, le_line (by simp only [S_len, List.length_append]; omega), ?_⟩
          rw [S_cat]
          exact fin g H' _ _ k7 hd7 ho7 hl7 hc7 hz7 hs7
    · obtain ⟨t, u3, u4, u5, k3, hd3, htl, htk, hto, ht0, htp, rfl⟩ := (hPv _ _ _).mp pv
      rw [List.take_length] at htl hto
      have := hls.op
      wtm_at "rd"
      intro p9 hp9
      have hp9d := hd3.ne hp9
      have k9 := k3.new (o := .lst (sL [[], [32], [], [32, 32]])) hp9
      refine ⟨dp, 4, rfl, by decide, hd3.upd_ne' hp9d, fun r9 H9 hr9 k99 hd9 => ?_⟩
      obtain ⟨g, hg, hat⟩ := litS_at (us := [[], [32], [], [32, 32]]) (r := r9) hr9
      obtain ⟨hog, hlg, hcg⟩ := gapB ((by decide : ∀ g ∈ [[], [32], [], [32, 32]], gapT g = true) g hg)
      refine ⟨_, _, rfl, SqL.of (k99 _ _ hp9d upd_same), _, atI_nat hat, _, rfl, le_line (by simp only [S_len]; omega), ?_⟩
      rw [S_cat]
      refine q _ _ (k9.trans k99) hd9 (by rw [List.length_append]; omega) (DigOk.app htk (digOk_isO hog) fun c d _ _ hd => hog d (List.mem_of_mem_head? hd)) (by rw [oc_app]; omega)
end
end K26

end
section
set_option linter.all false
set_option maxRecDepth 100000
set_option maxHeartbeats 4000000
namespace K26
open PySem PySem.Spec PyProof.Rows L2
open SX (S S_len S_cat S_inj)
open PySem.NumText
local macro_rules | `(tactic| wtm_at "rd") => `(tactic| try simp only [tSeq, tAsg, tVar, tC, gName, tRet, tRetN, tIfS, tNext, tDrop, tOp, tUn, rI0, rI, rU, tTest, tB, tAnd, tOr, tNot, tAndV, tOrV, tNotV, tIf, tCB, tCons, tNil, tTup, tLst, tCall, tSl, tPart, tNoPart, tBM, tBM0, gTup, gCons, gNil, gSub, tAug, ipI, rEq, rNe, sc_ii, sc_ss, sc_bb, sc_nn, sc_is, sc_si, sc_ns, sc_sn, sc_ni, sc_in, z0, z1, z2, z3, z4, z5, if_true, if_false, Bool.not_eq_true', decide_eq_false_iff_not, rIxS, rSlS, rSlL, tAugS, rGetL, cast1, rIxL, rIxT, rSetL, rAppend, rPop, rPopAt, rReverse, rCat, tYes, iRng1, iRng2, tMkBad, rIn, tFld, sFld, sFldAug, rAdd, tMeth, tMake, tCallS, tBadF, tM1, iList, iTup, iEnum, iEnumT, iStr, tBreak, C8.tCut, tFor_eq, tLc_eq, wipe_1,
  L2.start, List.map_cons, List.map_nil, List.cons_append, List.nil_append, List.append_nil, List.length_cons, List.length_nil, Nat.reduceAdd, Nat.reduceSub, List.replicate_succ, List.replicate_zero,
  List.getElem?_cons_succ, List.getElem?_cons_zero, List.set_cons_succ, List.set_cons_zero, Option.some.injEq, V.int.injEq, V.str.injEq, V.ref.injEq, V.bl.injEq, List.cons.injEq, and_assoc, and_true, true_and, exists_eq_left', exists_eq_left, exists_and_left, exists_and_right, exists_eq, decide_eq_true_eq, reduceCtorEq, false_and, and_false, exists_false, false_or, or_false, S_len, S_eq, k0, k1, k2, k3, k4, k5, k6, k7, k8, k9, k10, k11, k12, k13, k14, k15, k16, k17, k18, k19, k20, k21, k22, k23, k24, k25, k26, k27, k28, k29, k30, k31, k32, k33, k34, k35, k36, k37, k38, k39, k40, k41, k42, k43, k44, k45, k46, k47, k48, k49, k50, k51, k52, k53, Nat.zero_add])

section
variable {P : Program} {w : World} {K : PySem.W.Frag} {mg : Str → Option Value} {base : Heap} {CB fI : Addr}
theorem mkH {dp : Addr} {H : Hp} {p : Addr} (o : HO) (hd : Dr dp H) (hp : H p = none) : ∃ H', H' = L2.upd H p o ∧ Same H H' ∧ H' p = some o ∧ Dr dp H' := ⟨_, rfl, same_new hp o, upd_same, hd.upd_ne' (hd.ne hp)⟩
theorem rep_join1 {H : Hp} {a q : Addr} {ps : List Pl} {xs : List V} (h : H a = some (.tup [.str (S [106, 111, 105, 110]), .ref q])) (h2 : H q = some (.tup xs)) (h3 : Reps H (plansD ps) xs) : Rep H (planD (.join ps)) (.ref a) := ⟨a, _, rfl, h, _, _, rfl, rfl, _, _, rfl, ⟨q, xs, rfl, h2, h3⟩, rfl⟩
theorem rep_proj {H : Hp} {a : Addr} {x : List Nat} {p : Pl} {v : V} (h : H a = some (.tup [.str (S [112, 114, 111, 106, 101, 99, 116]), .str (S x), v])) (h2 : Rep H (planD p) v) : Rep H (planD (.proj x p)) (.ref a) := ⟨a, _, rfl, h, _, _, rfl, rfl, _, _, rfl, rfl, _, _, rfl, h2, rfl⟩
theorem pcs_bnd : ∀ {l : List (List Nat)}, (∀ u ∈ l, Pc 0 u) → wt l ≤ 2003 * l.length ∧ ocs l ≤ l.length
  | [], _ => ⟨by simp [wt], by simp [ocs]⟩
  | u :: r, h => by
    have h1 := (h u List.mem_cons_self).len
    have h2 := (h u List.mem_cons_self).op
    have ih := pcs_bnd fun v hv => h v (List.mem_cons_of_mem _ hv)
    constructor
    · show (u.length + 3) + wt r ≤ 2003 * (r.length + 1); omega
    · show oc u + ocs r ≤ r.length + 1; omega
theorem JOk.okJ {b m : Nat} {J : Body} (h : JOk b m J) : OkJ J := ⟨fun a ha => (h.at_ a ha).nm, fun a ha t ht => ((h.at_ a ha).tb t ht).1⟩
def spLaw (K : PySem.W.Frag) : Sp := fun vs H Q _ => ∃ (a : Addr) (ns : List Int), vs = [.ref a] ∧ SqL K H a (ns.map V.int) ∧ ns.length ≤ 100 ∧ ∀ H', Q (.bl true) H'
abbrev sc_law_N : List Str := ["_law_script", "_law_draws_here", "_law_world_here", "_law_join", "_law_menu_here", "_law_atom_here", "_law_plan", "_law_single", "_law_texts", "_law_k", "_law_text"]
abbrev sc_law_P : List Str := ["_law_script"]
abbrev sc_law_s : Scope := defScope s_law
theorem sc_law : FnScope sc_law_N sc_law_P sc_law_s := ⟨rfl, rfl, rfl, by decide +kernel, rfl, by decide +kernel, by decide +kernel⟩

theorem ok_lawF {fd : FuncData} (F : FunD K d_law.name d_law.qual d_law.params d_law.body d_law.scope [] [] (He.fAd K d_law.at_) fd) (T : Txt K mg) (B : BadTxt K mg CB fI) (BP : BadP P) (IB : IsB K CB) : FnOk P w K mg base CX0 60 (He.fAd K d_law.at_) fd ["_law_script"] (spLaw K) := by
  have c_l_draws : Cal P w K mg base CX0 1 "_law_draws" (spDraws K) := ok_draws T
  have c_l_take : Cal P w K mg base CX0 1 "_law_take" spTakeN := ok_takeN T
  have c_l_pick : Cal P w K mg base CX0 2 "_law_pick" (spPick K) := ok_pick T
  have c_l_text_world : Cal P w K mg base CX0 4 "_law_text_world" spTW := ok_text_world T
  have c_l_more_atoms : Cal P w K mg base CX0 4 "_law_more_atoms" spMore := ok_more_atoms T
  have c_l_simple : Cal P w K mg base CX0 5 "_law_simple" spSimple := ok_simple T
  have c_l_menu : Cal P w K mg base CX0 3 "_law_menu" spMenu := ok_menu T
  have c_l_any_plan : Cal P w K mg base CX0 7 "_law_any_plan" (spAny 4) := ok_any_plan T 4
  have c_l_plan_texts : Cal P w K mg base CX0 10 "_law_plan_texts" (spPT 6) := ok_plan_texts T 6
  have c_l_spoiled : Cal P w K mg base CX0 4 "_law_spoiled" spSpoil := ok_spoiled T
  have c_l_loose : Cal P w K mg base CX0 4 "_law_loose" spLoose := ok_loose T
  have c_l_plan_result : Cal P w K mg base CX0 33 "_law_plan_result" (spRes 24) := ok_plan_result T B BP 24
  have c_l_read_plan : Cal P w K mg base CX0 5 "_law_read_plan" (spRes 24) := ok_l_read_plan T 24
  have c_l_same : Cal P w K mg base CX0 51 "_law_same" (spSame 50) := ok_same T 50
  have c_l_classes : Cal P w K mg base CX0 33 "_law_classes" (spClasses 24) := ok_classes T B BP IB 24
  refine fn_ok0 F sc_law (fun vs H Q E h => ?_) (fun cdv A outer s H vs Q E hr h => ?_)
  · obtain ⟨a, ns, rfl, _⟩ := h; rfl
  · obtain ⟨a, ns, rfl, ha, hn, q⟩ := h
    refine ⟨_, (pss_cons (ps_set (i := 1) sc_law.nd rfl (by first | exact Or.inl rfl | exact Or.inr rfl) (pe_c c_l_draws hr (pa_cons (pv 0) (pa_cons pe_int pa_nil))))
      (pss_cons (ps_set (i := 2) sc_law.nd rfl (by first | exact Or.inl rfl | exact Or.inr rfl) (pe_c c_l_text_world hr (pa_cons (pv 1) pa_nil)))
      (C8.pss_cut (ps_set (i := 3) sc_law.nd rfl (by first | exact Or.inl rfl | exact Or.inr rfl) (pe_c c_l_more_atoms hr (pa_cons (pv 1) (pa_cons (pv 2) (pa_cons (pe_c c_l_simple hr (pa_cons (pv 1) (pa_cons (pv 2) pa_nil))) pa_nil)))))
      (pss_cons (ps_set (i := 4) sc_law.nd rfl (by first | exact Or.inl rfl | exact Or.inr rfl) (pe_op op_cat (pe_c c_l_menu hr (pa_cons (pv 1) (pa_cons (pv 2) pa_nil))) (pe_lst (pa_cons pe_str pa_nil))))
      (pss_cons (ps_for PassesOwn.never rfl (pi_tup (pe_ix ix_tup (pv 3) pe_int (fun _ _ => rfl))) (pg_name (i := 5) sc_law.nd rfl (by first | exact Or.inl rfl | exact Or.inr rfl)) (pss_one (ps_set (i := 4) sc_law.nd rfl (by first | exact Or.inl rfl | exact Or.inr rfl) (pe_op op_cat (pv 4) (pe_lst (pa_cons (pe_ix ix_tup (pv 5) pe_int (fun _ _ => rfl)) (pa_cons pe_str pa_nil)))))))
      (pss_cons (ps_set (i := 6) sc_law.nd rfl (by first | exact Or.inl rfl | exact Or.inr rfl) (pe_c c_l_any_plan hr (pa_cons (pv 1) (pa_cons (pv 3) (pa_cons (pe_ix ix_list (pv 2) pe_int (fun _ _ => rfl)) (pa_cons (pe_ix ix_list (pe_lst (pa_cons pe_int (pa_cons pe_int (pa_cons pe_int (pa_cons pe_int pa_nil))))) (pe_c c_l_take hr (pa_cons (pv 1) (pa_cons pe_int pa_nil))) (fun _ _ => rfl)) pa_nil))))))
      (C8.pss_cut (ps_if (pt_cmpR op_eq (pe_c c_l_take hr (pa_cons (pv 1) (pa_cons pe_int pa_nil))) pe_int (nomark _)) (pss_cons (ps_set (i := 7) sc_law.nd rfl (by first | exact Or.inl rfl | exact Or.inr rfl) (pe_tup (pa_cons pe_str (pa_cons (pe_tup (pa_cons (pv 6) pa_nil)) pa_nil))))
      (pss_one (ps_set (i := 6) sc_law.nd rfl (by first | exact Or.inl rfl | exact Or.inr rfl) (pe_ix ix_list (pe_lst (pa_cons (pv 7) (pa_cons (pe_tup (pa_cons pe_str (pa_cons (pe_tup (pa_cons (pe_tup (pa_cons pe_str (pa_cons pe_int pa_nil))) (pa_cons (pv 7) pa_nil))) pa_nil))) (pa_cons (pe_tup (pa_cons pe_str (pa_cons pe_str (pa_cons (pv 7) pa_nil)))) pa_nil)))) (pe_c c_l_take hr (pa_cons (pv 1) (pa_cons pe_int pa_nil))) (fun _ _ => rfl))))) pss_nil)
      (pss_cons (ps_set (i := 8) sc_law.nd rfl (by first | exact Or.inl rfl | exact Or.inr rfl) (pe_c c_l_plan_texts hr (pa_cons (pv 3) (pa_cons (pv 6) pa_nil))))
      (C8.pss_cut (ps_if (pt_cmpR op_eq (pe_c c_l_take hr (pa_cons (pv 1) (pa_cons pe_int pa_nil))) pe_int (nomark _)) (pss_one (ps_setLc (i := 8) (own := [("_law_k", 9)]) (g := gName 9) (tt := tYes) rfl sc_law.nd rfl rfl (sw_true rfl rfl rfl (by decide +kernel)) (pi_range1 (by rfl) T.b_range (pa_cons (pe_c c_l_take hr (pa_cons (pv 1) (pa_cons pe_int pa_nil))) pa_nil)) (blkOk_by (own := [("_law_k", 9)]) (N := sc_law_N) (sc := sc_law_s) (by decide +kernel)) (fun _ _ _ _ _ => pg_name (i := 9) sc_law.nd rfl (Or.inl rfl)) (fun _ _ _ _ _ => pts_nil) (fun _ _ _ _ _ => (pe_c c_l_pick hr (pa_cons (pv 1) (pa_cons (pv 4) pa_nil)))))) pss_nil)
      (pss_cons (ps_for PassesOwn.never rfl (pi_range1 (by rfl) T.b_range (pa_cons (pe_ix ix_list (pe_lst (pa_cons pe_int (pa_cons pe_int (pa_cons pe_int pa_nil)))) (pe_c c_l_take hr (pa_cons (pv 1) (pa_cons pe_int pa_nil))) (fun _ _ => rfl)) pa_nil)) (pg_name (i := 9) sc_law.nd rfl (by first | exact Or.inl rfl | exact Or.inr rfl)) (pss_one (ps_set (i := 8) sc_law.nd rfl (by first | exact Or.inl rfl | exact Or.inr rfl) (pe_c c_l_spoiled hr (pa_cons (pv 1) (pa_cons (pv 8) (pa_cons (pv 4) pa_nil)))))))
      (pss_cons (ps_set (i := 10) sc_law.nd rfl (by first | exact Or.inl rfl | exact Or.inr rfl) (pe_c c_l_loose hr (pa_cons (pv 1) (pa_cons (pv 8) pa_nil))))
      (pss_cons (ps_if (pt_not (pt_val (pe_c c_l_same hr (pa_cons (pe_c c_l_plan_result hr (pa_cons (pv 3) (pa_cons (pv 10) pa_nil))) (pa_cons (pe_c c_l_read_plan hr (pa_cons (pv 3) (pa_cons (pv 10) pa_nil))) pa_nil))))) (pss_one (ps_ret pe_bl)) pss_nil)
      (pss_one (ps_ret (pe_c c_l_classes hr (pa_cons (pv 3) (pa_cons (pv 10) pa_nil))))))))))))))))), ?_⟩
    wtm_at "rd"
    refine ⟨a, ns, rfl, ha, hn, fun dp H1 hdp hd1 => ⟨dp, rfl, hd1, fun wp H2 k2 hd2 hw2 => ?_⟩⟩
    refine ⟨fun σ H' => ∃ (J : Body) (jv : V), JOk 2000 8 J ∧ Dr dp H' ∧ WR dp H' wp ∧ Rep H' (joinD J) jv ∧ σ = [some (.ref a), some (.ref dp), some (.ref wp), some jv, none, none, none, none, none, none, none], ⟨dp, wp, rfl, hd2, hw2, fun J0 v0 H3 hJ0 k3 hd3 hv0 => ⟨dp, wp, v0, J0, rfl, hd3, hw2.kp k3 hd2, hv0, hJ0, fun J jv H4 hJ k4 hd4 hjv => ⟨J, jv, hJ, hd4, (hw2.kp k3 hd2).kp k4 hd3, hjv, rfl⟩⟩⟩, fun σ H5 hm => ?_⟩
    clear hd1 hd2 hw2 k2
    obtain ⟨J, jv, hJ, hd5, hw5, hjv, rfl⟩ := hm
    wtm_at "rd"
    refine ⟨dp, wp, rfl, hd5, hw5, fun mp H6 m k6 hd6 hmd hm hm0 hml hmp p hp => ?_⟩
    have hpd := hd6.ne hp
    refine ⟨mp, rfl, _, by rw [upd_ne (ne_of_none hm hp)]; exact hm, _, upd_same, le_line (by simp; omega), fun p1 hp1 => ?_⟩
    wtm_at "rd"
    have hp1d := (hd6.upd_ne' (o := .lst [V.str (S [10])]) hpd).ne hp1
    obtain ⟨jp, ep, ap, avs, rfl, hjp, hap, havs⟩ := rep_join hjv
    have hd7 := (hd6.upd_ne' (o := .lst [V.str (S [10])]) hpd).upd_ne' (o := .lst (sL (m ++ [[10]]))) hp1d
    have k7 : Kp dp H5 (upd (upd H6 p (HO.lst [V.str (S [10])])) p1 (HO.lst (sL (m ++ [[10]])))) := (k6.new hp).new hp1
    have e7 : sL m ++ [V.str (S [10])] = sL (m ++ [[10]]) := by simp
    rw [e7]
    have h7 : upd (upd H6 p (HO.lst [V.str (S [10])])) p1 (HO.lst (sL (m ++ [[10]]))) p1 = some (.lst (sL (m ++ [[10]]))) := upd_same
    revert hd7 k7 h7
    generalize upd (upd H6 p (HO.lst [V.str (S [10])])) p1 (HO.lst (sL (m ++ [[10]]))) = H7
    intro hd7 k7 h7
    have kt7 := KT.dr k7 hd5
    have hp1H : H5 p1 = none ∨ True := .inr trivial
    refine ⟨jp, rfl, _, SqT.of (kt7 _ _ hjp), _, atI_nat (j := 1) rfl, ap, rfl, ⟨_, SqT.of (kt7 _ _ hap)⟩, ?_⟩
    have hal : avs.length = J.length := by rw [reps_len havs, List.length_map]
    have hJl := hJ.len
    obtain ⟨Pv, hPv⟩ := opq3 fun i σ H' => ∃ (mp' : Addr) (m' : List (List Nat)) (u5 : Option V), Kp dp H5 H' ∧ Dr dp H' ∧ mp' ≠ dp ∧ H' mp' = some (.lst (sL m')) ∧ m' ≠ [] ∧ m'.length ≤ 101 + 2 * i ∧ (∀ u ∈ m', Pc 0 u) ∧ σ = [some (.ref a), some (.ref dp), some (.ref wp), some (.ref jp), some (.ref mp'), u5, none, none, none, none, none]
    refine forb (walk_tup (xs := avs)) Pv ((hPv _ _ _).mpr ⟨p1, _, none, k7, hd7, hp1d, h7, by simp, by simp; omega, fun u hu => ?_, rfl⟩) (fun i σ H' pv => ?_) (fun i x σ H8 H9 hi pv y => ?_) (fun σ H8 pv => ?_)
    · rcases List.mem_append.mp hu with hu | hu
      · exact hmp u hu
      · rw [List.mem_singleton.mp hu]; exact Pc.one 10
    · obtain ⟨mp', m', u5, k8, hd8, _⟩ := (hPv _ _ _).mp pv
      exact SqT.of ((KT.dr k8 hd5) _ _ hap)
    · obtain ⟨mp', m', u5, k8, hd8, hmd', hm', hm0', hml', hmp', rfl⟩ := (hPv _ _ _).mp pv
      obtain ⟨rfl, hx⟩ := y
      obtain ⟨b, hb⟩ : ∃ b, J[i]? = some b := ⟨_, List.getElem?_eq_getElem (by omega)⟩
      have hrb := reps_get havs (i := i) (d := atomD b) (by rw [List.getElem?_map, hb]; rfl)
      obtain ⟨x', hx', hr'⟩ := hrb
      rw [hx] at hx'
      cases hx'
      obtain ⟨bp, bq, bxs, rfl, b1, b2, b3⟩ := rep_atom hr'
      have kt8 := KT.dr k8 hd5
      wtm_at "rd"
      have hab := hJ.at_ b (List.mem_of_getElem? hb)
      refine ⟨_, SqT.of (kt8 _ _ b1), _, atI_nat (j := 0) rfl, fun p2 hp2 => ?_⟩
      have hp2d := hd8.ne hp2
      have hd9 := hd8.upd_ne' (o := .lst (sL [b.1, [40]])) hp2d
      refine ⟨_, by rw [upd_ne (ne_of_none hm' hp2)]; exact hm', _, upd_same, le_line (by simp; omega), fun p3 hp3 => ?_⟩
      have hp3d := hd9.ne hp3
      refine (hPv _ _ _).mpr ⟨p3, m' ++ [b.1, [40]], _, (k8.new hp2).new hp3, hd9.upd_ne' hp3d, hp3d, by rw [upd_same]; simp, by simp, by simp; omega, fun u hu => ?_, rfl⟩
      rcases List.mem_append.mp hu with hu | hu
      · exact hmp' u hu
      · simp only [List.mem_cons, List.not_mem_nil, or_false] at hu
        rcases hu with rfl | rfl
        · exact Pc.word hab.nm hab.nl
        · exact Pc.one 40
    · obtain ⟨mp', m', u5, k8, hd8, hmd', hm', hm0', hml', hmp', rfl⟩ := (hPv _ _ _).mp pv
      wtm_at "rd"
      have kt8 := KT.dr k8 hd5
      have hw8 := hw5.kp k8 hd5
      have hjv8 := hjv.kt kt8 _ _
      obtain ⟨sch, nsw, tsw, hW, hO⟩ := hw8.ex
      obtain ⟨sp, np, vp, sxs, w1, w2, w3, w4, w5, w6, w7, w8⟩ := hW.ex
      clear hPv pv Pv hjv hw5 k8 kt8 hW hjp hap havs
      refine ⟨_, SqL.of w1, _, atI_nat (j := 1) rfl, fun p2 hp2 => ?_⟩
      have hp2d := hd8.ne hp2
      have k82 := (Kp.refl dp H8).new (o := .lst [.int 2, .int 1, .int 3, .int 0]) hp2
      refine ⟨dp, 4, rfl, by decide, hd8.upd_ne' hp2d, fun r9 H9 hr9 k9 hd9 => ?_⟩
      wtm_at "rd"
      obtain ⟨d, hdm, hat⟩ := lit_at (ks := [2, 1, 3, 0]) hr9
      have hdb : Wd d ≤ 250000 ∧ Od d ≤ 13 ∧ d ≤ 3 := (by decide : ∀ d ∈ [2, 1, 3, 0], Wd d ≤ 250000 ∧ Od d ≤ 13 ∧ d ≤ 3) d hdm
      have k89 := k82.trans k9
      have hnw0 : nsw ≠ [] := fun z => by have := hO.nl; rw [z] at this; cases this
      refine ⟨_, SqL.of (k9 _ _ hp2d upd_same), _, atI_nat hat, dp, np, _, J, nsw, d, rfl, by omega, hd9, hjv8.kt (KT.dr k89 hd8) _ _, hJ.ne, k89 _ _ w6 w4, hnw0, hO.nw, w6, fun pl v H10 hpl k10 hd10 hv => ?_⟩
      have hplw := hpl.wt
      have hplo := hpl.op
      have hpld := hpl.dep
      have k810 := k89.trans k10
      wtm_at "rd"
      obtain ⟨MidA, hMidA⟩ : ∃ MidA : L2.St → Hp → Prop, ∀ σ H', MidA σ H' ↔ ∃ (pl : Pl) (v : V) (u7 : Option V), POk J.length pl ∧ pdep pl ≤ 5 ∧ pw pl ≤ 300000 ∧ po pl ≤ 15 ∧ Kp dp H8 H' ∧ Dr dp H' ∧ Rep H' (planD pl) v ∧ σ = [some (.ref a), some (.ref dp), some (.ref wp), some (.ref jp), some (.ref mp'), u5, some v, u7, none, none, none] := ⟨_, fun _ _ => Iff.rfl⟩
      refine ⟨MidA, ?_, fun σ H11 hm11 => ?_⟩
      · refine ⟨dp, 6, rfl, by decide, hd10, fun r11 H11 hr11 k11 hd11 => ?_⟩
        wtm_at "rd"
        have k811 := k810.trans k11
        have hv11 := hv.kt (KT.dr k11 hd10) _ _
        refine ite2 (fun _ => ?_) (fun _ => (hMidA _ _).mpr ⟨pl, v, none, hpl.ok, by omega, by omega, by omega, k811, hd11, hv11, rfl⟩)
        intro q1 g1
        obtain ⟨H12, e12, s12, h12, hd12⟩ := mkH (.tup [v]) hd11 g1
        rw [← e12]
        intro q2 g2
        obtain ⟨H13, e13, s13, h13, hd13⟩ := mkH (.tup [V.str (S [106, 111, 105, 110]), V.ref q1]) hd12 g2
        rw [← e13]
        intro q3 g3
        obtain ⟨H14, e14, s14, h14, hd14⟩ := mkH (.tup [V.str (S [115, 99, 97, 110]), V.int 0]) hd13 g3
        rw [← e14]
        intro q4 g4
        obtain ⟨H15, e15, s15, h15, hd15⟩ := mkH (.tup [V.ref q3, V.ref q2]) hd14 g4
        rw [← e15]
        intro q5 g5
        obtain ⟨H16, e16, s16, h16, hd16⟩ := mkH (.tup [V.str (S [106, 111, 105, 110]), V.ref q4]) hd15 g5
        rw [← e16]
        intro q6 g6
        obtain ⟨H17, e17, s17, h17, hd17⟩ := mkH (.tup [V.str (S [112, 114, 111, 106, 101, 99, 116]), V.str (S [110, 111, 110, 101]), V.ref q2]) hd16 g6
        rw [← e17]
        intro q7 g7
        obtain ⟨H18, e18, s18, h18, hd18⟩ := mkH (.lst [V.ref q2, V.ref q5, V.ref q6]) hd17 g7
        rw [← e18]
        refine ⟨dp, 3, rfl, by decide, hd18, fun r19 H19 hr19 k19 hd19 => ?_⟩
        wtm_at "rd"
        have s38 := s14.trans (s15.trans (s16.trans (s17.trans s18)))
        have s18' := s12.trans (s13.trans s38)
        have kt19 := KT.dr k19 hd18
        have r1 : Rep H13 (planD (.join [pl])) (.ref q2) := rep_join1 h13 (s13 _ _ h12) ⟨v, [], rfl, hv11.kt (KT.same (s12.trans s13)) _ _, rfl⟩
        have r2 : Rep H16 (planD (.join [.scan 0, .join [pl]])) (.ref q5) := rep_join1 h16 (s16 _ _ h15) ⟨_, _, rfl, rep_scan ((s15.trans s16) _ _ h14), _, _, rfl, r1.kt (KT.same (s14.trans (s15.trans s16))) _ _, rfl⟩
        have r3 : Rep H17 (planD (.proj [110, 111, 110, 101] (.join [pl]))) (.ref q6) := rep_proj h17 (r1.kt (KT.same (s14.trans (s15.trans (s16.trans s17)))) _ _)
        have k819 : Kp dp H8 H19 := (k811.trans (Kp.same s18')).trans k19
        have hJ0 : 0 < J.length := by
          cases hh : J with
          | nil => exact absurd hh hJ.ne
          | cons _ _ => simp
        have h7' := k19 _ _ (hd17.ne g7) h18
        have hok := hpl.ok
        have w1 : pw (.join [pl]) = pw pl + 12 := by simp [pw, pws]
        have w2 : pw (.join [.scan 0, .join [pl]]) = pw pl + 9028 := by simp [pw, pws]; omega
        have o2 : po (.join [.scan 0, .join [pl]]) = po pl + 2 := by simp [po, pos]
        have d2 : pdep (.join [.scan 0, .join [pl]]) = pdep pl + 2 := by simp [pdep, pdeps]
        have w3 : pw (.proj [110, 111, 110, 101] (.join [pl])) = pw pl + 422 := by simp [pw, pws]
        have o3 : po (.proj [110, 111, 110, 101] (.join [pl])) = po pl + 2 := by simp [po, pos]
        have d3 : pdep (.proj [110, 111, 110, 101] (.join [pl])) = pdep pl + 2 := by simp [pdep, pdeps]
        have o1 : po (.join [pl]) = po pl + 1 := by simp [po, pos]
        have d1 : pdep (.join [pl]) = pdep pl + 1 := by simp [pdep, pdeps]
        have hr3 : r19 = 0 ∨ r19 = 1 ∨ r19 = 2 := by omega
        rcases hr3 with rfl | rfl | rfl
        · exact ⟨_, SqL.of h7', _, atI_nat (j := 0) rfl, (hMidA _ _).mpr ⟨.join [pl], _, _, by simp [POk, POks, hok], by omega, by omega, by omega, k819, hd19, r1.kt ((KT.same s38).trans kt19) _ _, rfl⟩⟩
        · exact ⟨_, SqL.of h7', _, atI_nat (j := 1) rfl, (hMidA _ _).mpr ⟨.join [.scan 0, .join [pl]], _, _, by simp [POk, POks, hok, hJ0], by omega, by omega, by omega, k819, hd19, r2.kt ((KT.same (s17.trans s18)).trans kt19) _ _, rfl⟩⟩
        · exact ⟨_, SqL.of h7', _, atI_nat (j := 2) rfl, (hMidA _ _).mpr ⟨.proj [110, 111, 110, 101] (.join [pl]), _, _, ⟨by decide, by decide, by simp [POk, POks, hok]⟩, by omega, by omega, by omega, k819, hd19, r3.kt ((KT.same s18).trans kt19) _ _, rfl⟩⟩
      · obtain ⟨pl, v, u7, hpok, hpd5, hpw, hpo, k11, hd11, hv11, rfl⟩ := (hMidA _ _).mp hm11
        wtm_at "rd"
        have hjv11 := hjv8.kt (KT.dr k11 hd8) _ _
        refine ⟨_, v, J, pl, rfl, hjv11, hJ.at_, hv11, hpok, by omega, by omega, fun tp H12 tx s12 htp htx hls => ?_⟩
        have hd12 : Dr dp H12 := let ⟨ds, e⟩ := hd11; ⟨ds, s12 _ _ e⟩
        have htpd := hd11.ne htp
        have k12 := k11.trans (Kp.same s12)
        obtain ⟨MidB, hMidB⟩ : ∃ MidB : L2.St → Hp → Prop, ∀ σ H', MidB σ H' ↔ ∃ (tp : Addr) (tx : List (List Nat)), Kp dp H8 H' ∧ Dr dp H' ∧ tp ≠ dp ∧ H' tp = some (.lst (sL tx)) ∧ Ls 0 310000 15 tx ∧ σ = [some (.ref a), some (.ref dp), some (.ref wp), some (.ref jp), some (.ref mp'), u5, some v, u7, some (.ref tp), none, none] := ⟨_, fun _ _ => Iff.rfl⟩
        refine ⟨MidB, ?_, fun σ H13 hm13 => ?_⟩
        · refine ⟨dp, 8, rfl, by decide, hd12, fun r13 H13 hr13 k13 hd13 => ⟨rfl, ?_⟩⟩
          wtm_at "rd"
          refine ite2 (fun _ => ?_) (fun _ => (hMidB _ _).mpr ⟨tp, tx, k12.trans k13, hd13, htpd, k13 _ _ htpd htx, hls.mono (by omega) (by omega) (by omega), rfl⟩)
          refine ⟨dp, 11, rfl, by decide, hd13, fun r14 H14 hr14 k14 hd14 => ?_⟩
          wtm_at "rd"
          refine ⟨by omega, by omega, ?_⟩
          rw [Int.toNat_natCast]
          have k814 := (k12.trans k13).trans k14
          obtain ⟨Pw, hPw⟩ : ∃ Pw : Addr → Nat → Hp → Prop, ∀ D i H', Pw D i H' ↔ Kp dp H14 H' ∧ Dr dp H' ∧ ∃ xs : List (List Nat), xs.length = i ∧ (∀ u ∈ xs, Pc 0 u) ∧ H' D = some (.lst (sL xs)) := ⟨_, fun _ _ _ => Iff.rfl⟩
          refine lcb (walk_range (lo := 0) (n := r14)) Pw (fun D hD => (hPw _ _ _).mpr ⟨(Kp.refl dp H14).new hD, hd14.upd_ne' (hd14.ne hD), [], rfl, by simp, upd_same⟩) (fun _ _ _ _ _ => trivial) (fun D i x H' H15 hD hi e y => ?_) (fun D H' hD e => ?_)
          · obtain ⟨k15, hd15, xs, hxl, hxp, hDx⟩ := (hPw _ _ _).mp e
            obtain ⟨rfl, rfl⟩ := y
            have hDd := hd14.ne hD
            wtm_at "rd"
            refine ⟨dp, mp', _, rfl, (k814.trans k15) _ _ hmd' hm', hmd', fun z => hm0' (by simpa using z), hd15, fun v H16 hv k16 hd16 => ?_⟩
            obtain ⟨u, hu, rfl⟩ := List.mem_map.mp hv
            refine ⟨_, k16 _ _ hDd hDx, lt_line (by simp; omega), (hPw _ _ _).mpr ⟨(k15.trans k16).mutn hD, hd16.upd_ne' hDd, xs ++ [u], by simp; omega, fun z hz => ?_, by rw [upd_same]; simp⟩⟩
            rcases List.mem_append.mp hz with hz | hz
            · exact hxp z hz
            · rw [List.mem_singleton.mp hz]; exact hmp' u hu
          · obtain ⟨k15, hd15, xs, hxl, hxp, hDx⟩ := (hPw _ _ _).mp e
            have hb := pcs_bnd hxp
            exact (hMidB _ _).mpr ⟨D, xs, k814.trans k15, hd15, hd14.ne hD, hDx, ⟨hxp, by omega, by omega⟩, rfl⟩
        · obtain ⟨tp, tx, k13, hd13, htpd, htx, hls, rfl⟩ := (hMidB _ _).mp hm13
          wtm_at "rd"
          intro p3 hp3
          have hp3d := hd13.ne hp3
          have k813 := k13.new (o := .lst [.int 1, .int 0, .int 2]) hp3
          refine ⟨dp, 3, rfl, by decide, hd13.upd_ne' hp3d, fun r14 H14 hr14 k14 hd14 => ?_⟩
          wtm_at "rd"
          obtain ⟨d, hdm, hat⟩ := lit_at (ks := [1, 0, 2]) hr14
          have hd2 : d ≤ 2 := (by decide : ∀ d ∈ [1, 0, 2], d ≤ 2) d hdm
          refine ⟨_, SqL.of (k14 _ _ hp3d upd_same), _, atI_nat hat, _, rfl, by omega, by omega, ?_⟩
          rw [Int.toNat_natCast]
          have k814 := k813.trans k14
          have s3 := same_new hp3 (.lst [.int 1, .int 0, .int 2])
          obtain ⟨Pv, hPv⟩ := opq3 fun i σ H' => ∃ (tp : Addr) (tx : List (List Nat)) (u9 : Option V), Kp dp H8 H' ∧ Dr dp H' ∧ tp ≠ dp ∧ H' tp = some (.lst (sL tx)) ∧ Ls i (310000 + 6000 * i) (15 + 2 * i) tx ∧ σ = [some (.ref a), some (.ref dp), some (.ref wp), some (.ref jp), some (.ref mp'), u5, some v, u7, some (.ref tp), u9, none]
          refine forb (walk_range (lo := 0) (n := d)) Pv ((hPv _ _ _).mpr ⟨tp, tx, none, k814, hd14, htpd, k14 _ _ htpd (s3 _ _ htx), hls, rfl⟩) (fun _ _ _ _ => trivial) (fun i x σ H15 H16 hi pv y => ?_) (fun σ H15 pv => ?_)
          · obtain ⟨tp, tx, u9, k15, hd15, htpd, htx, hls, rfl⟩ := (hPv _ _ _).mp pv
            obtain ⟨rfl, rfl⟩ := y
            wtm_at "rd"
            exact ⟨dp, tp, mp', tx, m', i, _, _, rfl, hd15, htx, htpd, hls, by omega, by omega, k15 _ _ hmd' hm', hmd', hm0', hmp', fun p H17 l' k17 hd17 hpd hp hl' => (hPv _ _ _).mpr ⟨p, l', _, k15.trans k17, hd17, hpd, hp, hl'.mono (Nat.le_refl _) (by omega) (by omega), rfl⟩⟩
          · obtain ⟨tp, tx, u9, k15, hd15, htpd, htx, hls, rfl⟩ := (hPv _ _ _).mp pv
            wtm_at "rd"
            refine ⟨dp, tp, tx, d, _, _, rfl, hd15, htx, htpd, hls, by omega, by omega, fun t H16 k16 hd16 htl htk hto => ?_⟩
            wtm_at "rd"
            have k816 := k15.trans k16
            have hjv16 := hjv8.kt (KT.dr k816 hd8) _ _
            have hJB : JB J := by unfold JB; omega
            have hoJ := hJ.okJ
            have hat16 : ∀ a ∈ J, AtB a := fun a ha => (hJ.at_ a ha).atB
            have hop : opens (toks 0 t) < 24 := by
              have := opens_oc _ 0 t (Nat.le_refl _)
              omega
            have hbd := resD_bnd hoJ (wf_toks t.length 0 t (Nat.le_refl _)) hop
            have htkl := toks_len _ 0 t (Nat.le_refl _)
            refine ⟨_, t, J, rfl, hjv16, hJB, hoJ, hat16, htl, htk, hop, fun H17 v1 s17 hv1 => ?_⟩
            refine ⟨_, t, J, rfl, hjv16.kt (KT.same s17) _ _, hJB, hoJ, hat16, htl, htk, hop, fun H18 v2 s18 hv2 => ?_⟩
            refine ⟨_, _, _, rfl, hv1.kt (KT.same s18) _ _, hv2, by omega, by omega, fun H19 s19 => ?_⟩
            wtm_at "rd"
            exact ⟨_, t, J, rfl, hjv16.kt (KT.same (s17.trans (s18.trans s19))) _ _, hJB, hoJ, hat16, htl, htk, hop, fun H20 s20 => q H20⟩
end
end K26

end
section
set_option linter.all false
set_option maxRecDepth 100000
set_option maxHeartbeats 0
namespace K26
open PySem PySem.Spec PyProof.Rows L2
/-! ### what the head says of BadText -/
def cB (K : PySem.W.Frag) : Addr := He.ga K "BadText"
def iB (K : PySem.W.Frag) : Addr := He.ma K (cB K) "__init__"
abbrev FnB : Type := Option (Str × Str × Arguments × FuncBody × Scope × Addr × List Str × Addr)
def fnB (K : PySem.W.Frag) : FnB := match K.lookup (iB K) with
  | some ⟨_, _, .func fd, _⟩ => some (fd.name, fd.qualname, fd.params, fd.body, fd.scope, fd.globals, fd.closure.map (·.1), fd.builtins)
  | _ => none
def valB : FnB := some ("__init__", "BadText.__init__", bParams, .stmts bBody, bScope, mainGlobals, ["__class__"], builtinsNs)
def noneB : Value → Bool
  | .none => true
  | _ => false
def fileB (K : PySem.W.Frag) : Value → Bool
  | .ref c => (match K.lookup c with
    | some ⟨_, _, .fields vs, _⟩ => (match (vs[2]? : Option Value) with
      | some (.str x _) => decide (x = mainFile)
      | _ => false)
    | _ => false)
  | _ => false
def cellB (K : PySem.W.Frag) (c : Addr) : Bool := match K.lookup c with
  | some ⟨_, _, .cell (some (.ref C)), _⟩ => decide (C = cB K)
  | _ => false
def funB (K : PySem.W.Frag) : Bool := match K.lookup (iB K) with
  | some ⟨_, _, .func fd, _⟩ => noneB fd.defaults && (PySem.W.codeIn K fd.code "BadText.__init__" && (fileB K fd.code && (match fd.closure with
    | [(_, c)] => cellB K c
    | _ => false)))
  | _ => false
def slotB : List (Option Value) → Bool
  | [_, _, _, _, some (.builtin n), _] => decide (n = "ValueError.__new__")
  | _ => false
def clsB (K : PySem.W.Frag) : Bool := match K.lookup (cB K) with
  | some ⟨.type t, _, .cls cd, sl⟩ => decide (t = "type") && (slotB sl.toList && (cd.hasDict && (!cd.hasDel && (match cd.mro with
    | .ref c :: bm => decide (c = cB K) && PySem.HandSPX.refsVE bm
    | _ => false))))
  | _ => false
def e0 (K : PySem.W.Frag) (n : Str) (v : Option Value) : Bool := He.eqO (PySem.W.findIn K (.ref (cB K)) n) (some v)
def exB1 (K : PySem.W.Frag) : Bool := e0 K "__setattr__" (some (.builtin "object.__setattr__")) && (e0 K "__getattribute__" (some (.builtin "BaseException.__getattribute__")) && (e0 K "__getattr__" none && (e0 K "line" none && (e0 K "at" none && (e0 K "__init__" (some (.ref (iB K))) &&
  e0 K "__class__" (some (.builtin "object.__class__")))))))
def exB2 (K : PySem.W.Frag) : Bool := decide (PySem.W.typeIn K (.ref (iB K)) = some (.type "function")) && (PySem.W.keepIn K (.ref (cB K)) && (decide (PySem.W.subIn K (.ref (cB K)) (.type "BaseException") = some true) && (decide (PySem.W.typeIn K (.ref (cB K)) = some (.type "type")) && (PySem.W.hasDictIn K (cB K) &&
  (decide (PySem.W.exmOne K (.ref (cB K)) (.ref (cB K)) = some true) && He.eqO (PySem.W.ks_superIn K (cB K) (cB K) "__init__") (some (some (.builtin "ValueError.__init__"))))))))
def exB3 (K : PySem.W.Frag) : Bool := He.eqO (PySem.W.nsIn K cStatics "thirdparty.any") (some none) && (decide (PySem.W.subIn K (.ref (cB K)) (.type "ValueError") = some true) && (decide (PySem.W.mroIn K (cB K) (.ref (cB K)) = some true) && (He.eqO (PySem.W.nsIn K mainGlobals "super") (some none) &&
  (decide (PySem.W.mroIn K (cB K) (.type "object") = some true) && (He.eqO (PySem.W.specialIn K (.builtin "object.__class__") "__get__") (some (some (.builtin "getset_descriptor.__get__"))) && decide (PySem.W.takesIn K (.builtin "object.__class__") = some true))))))
def exB4 (K : PySem.W.Frag) : Bool := decide (PySem.W.kitOne K (.ref (cB K)) (.ref (He.ga K "ChanceError")) = some true) && (decide (PySem.W.kitOne K (.ref (cB K)) (.type "ValueError") = some true) && decide (PySem.W.kitOne K (.ref (cB K)) (.ref (He.ga K "DoubleFact")) = some false))
def exB (K : PySem.W.Frag) : Bool := (funB K && clsB K) && ((exB1 K && exB2 K) && (exB3 K && exB4 K))
theorem isB_of {K : PySem.W.Frag} (h : exB K = true) : IsB K (cB K) := by
  obtain ⟨_, h2⟩ := He.ba h
  obtain ⟨h3, h4⟩ := He.ba h2
  obtain ⟨h5, h6⟩ := He.ba h3
  obtain ⟨h7, h8⟩ := He.ba h4
  obtain ⟨a1, b⟩ := He.ba h5
  obtain ⟨a2, b⟩ := He.ba b
  obtain ⟨a3, b⟩ := He.ba b
  obtain ⟨a4, b⟩ := He.ba b
  obtain ⟨a5, b⟩ := He.ba b
  obtain ⟨a6, a7⟩ := He.ba b
  obtain ⟨c1, b⟩ := He.ba h6
  obtain ⟨c2, b⟩ := He.ba b
  obtain ⟨c3, b⟩ := He.ba b
  obtain ⟨c4, b⟩ := He.ba b
  obtain ⟨c5, b⟩ := He.ba b
  obtain ⟨d1, b⟩ := He.ba h7
  obtain ⟨d2, b⟩ := He.ba b
  obtain ⟨d3, b⟩ := He.ba b
  obtain ⟨d4, b⟩ := He.ba b
  obtain ⟨d5, b⟩ := He.ba b
  obtain ⟨d6, d7⟩ := He.ba b
  obtain ⟨f1, b⟩ := He.ba h8
  obtain ⟨f2, f3⟩ := He.ba b
  exact ⟨⟨He.eqO_ok a2, He.eqO_ok a3, of_decide_eq_true c3, c5, He.eqO_ok a7, He.eqO_ok d6, of_decide_eq_true d7, of_decide_eq_true d5⟩, of_decide_eq_true f1, of_decide_eq_true f2, of_decide_eq_true f3⟩
theorem badTxt_of {K : PySem.W.Frag} {mg : Str → Option Value} (T : Txt K mg) (hv : fnB K = valB) (h : exB K = true) : BadTxt K mg (cB K) (iB K) := by
  obtain ⟨h1, h2⟩ := He.ba h
  obtain ⟨hf, hc⟩ := He.ba h1
  obtain ⟨h3, h4⟩ := He.ba h2
  obtain ⟨h5, h6⟩ := He.ba h3
  obtain ⟨h7, h8⟩ := He.ba h4
  obtain ⟨a1, b⟩ := He.ba h5
  obtain ⟨a2, b⟩ := He.ba b
  obtain ⟨a3, b⟩ := He.ba b
  obtain ⟨a4, b⟩ := He.ba b
  obtain ⟨a5, b⟩ := He.ba b
  obtain ⟨a6, a7⟩ := He.ba b
  obtain ⟨c1, b⟩ := He.ba h6
  obtain ⟨c2, b⟩ := He.ba b
  obtain ⟨c3, b⟩ := He.ba b
  obtain ⟨c4, b⟩ := He.ba b
  obtain ⟨c5, b⟩ := He.ba b
  obtain ⟨c6, c7⟩ := He.ba b
  obtain ⟨d1, b⟩ := He.ba h7
  obtain ⟨d2, b⟩ := He.ba b
  obtain ⟨d3, b⟩ := He.ba b
  obtain ⟨d4, b⟩ := He.ba b
  refine ⟨T.g_BadText, ?_, He.eqO_ok a1, He.eqO_ok a2, He.eqO_ok a3, He.eqO_ok a4, He.eqO_ok a5, He.eqO_ok a6, of_decide_eq_true c1, c2, of_decide_eq_true c3, of_decide_eq_true c4, c5, of_decide_eq_true c6, He.eqO_ok c7, He.eqO_ok d1, of_decide_eq_true d2, of_decide_eq_true d3, ?_, ?_⟩
  · unfold clsB at hc
    cases q : K.lookup (cB K) with
    | none => rw [q] at hc; cases hc
    | some o =>
      obtain ⟨oc, od, dt, osl⟩ := o
      rw [q] at hc
      cases oc with
      | type t =>
        cases dt with
        | cls cd =>
          obtain ⟨nm, bs, mr, N, qn, hd, sn, sub, ab, col, del⟩ := cd
          obtain ⟨g1, b⟩ := He.ba hc
          obtain ⟨g2, b⟩ := He.ba b
          obtain ⟨g3, b⟩ := He.ba b
          obtain ⟨g4, g5⟩ := He.ba b
          have e1 := of_decide_eq_true g1
          change hd = true at g3
          have g4' : del = false := by simpa using g4
          subst e1 g3 g4'
          cases mr with
          | nil => cases g5
          | cons c0 bm =>
            cases c0 with
            | ref c =>
              obtain ⟨m1, m2⟩ := He.ba g5
              have e2 : c = cB K := of_decide_eq_true m1
              subst e2
              obtain ⟨sl⟩ := osl
              unfold slotB at g2
              split at g2
              · rename_i k0 k1 k2 k3 n k5 es
                have en := of_decide_eq_true g2
                subst en
                change sl = _ at es
                subst es
                exact ⟨nm, qn, N, bs, bm, sn, sub, ab, col, od, k0, k1, k2, k3, k5, rfl, m2⟩
              · cases g2
            | _ => cases g5
        | _ => cases hc
      | _ => cases hc
  · obtain ⟨X, kX, G⟩ := T.at_
    exact PySem.W.mg_none_of kX G (He.eqO_ok d4)
  · unfold funB at hf
    unfold fnB at hv
    cases q : K.lookup (iB K) with
    | none => rw [q] at hf; cases hf
    | some o =>
      obtain ⟨oc, od, dt, osl⟩ := o
      rw [q] at hf hv
      cases dt with
      | func fd =>
        obtain ⟨n1, n2, n3, n4, n5, n6, n7, n8, n9, n10, n11, n12, n13, n14, n15⟩ := fd
        obtain ⟨g1, b⟩ := He.ba hf
        obtain ⟨g2, b⟩ := He.ba b
        obtain ⟨g3, g4⟩ := He.ba b
        have e2 : (some (n1, n2, n3, n4, n5, n6, n7.map (·.1), n15) : FnB) = valB := hv
        unfold valB at e2
        simp only [Option.some.injEq, Prod.mk.injEq] at e2
        obtain ⟨h1, h2, h3, h4, h5, h6, h7, h8⟩ := e2
        subst h1 h2 h3 h4 h5 h6 h8
        have e8 : n8 = .none := by cases n8 <;> first | rfl | cases g1
        cases n7 with
        | nil => cases g4
        | cons p r =>
          cases r with
          | cons _ _ => cases g4
          | nil =>
            obtain ⟨p1, cc⟩ := p
            have e7 : p1 = "__class__" := by simpa using h7
            subst e7
            change fileB K n13 = true at g3
            change cellB K cc = true at g4
            unfold cellB at g4
            split at g4
            · rename_i cl cld C csl qc
              have ec := of_decide_eq_true g4
              subst ec
              cases n13 with
              | ref cda =>
                unfold fileB at g3
                dsimp only at g3
                split at g3
                · rename_i l1 l2 vs l3 ql
                  split at g3
                  · rename_i x tf qv
                    have ex := of_decide_eq_true g3
                    subst ex
                    exact ⟨oc, od, n8, n9, n10, n11, n12, cda, cc, n14, osl, _, _, _, vs, tf, _, _, _, rfl, e8, g2, ql, qv, qc⟩
                  · cases g3
                · cases g3
              | _ => cases g3
            · cases g4
      | _ => cases hf
/-! ### the Hook -/
def asM (g : Addr → Option Obj) : List Addr := He.asD g 6 ++ [cStatics]
abbrev AlM : Type := He.AlD × FnB × Bool
def obsM (g : Addr → Option Obj) : AlM := (He.obsD fa fn (He.frG g (asM g)), fnB (He.frG g (asM g)), exB (He.frG g (asM g)))
structure SaysM (K : PySem.W.Frag) : Prop where
  d : He.SaysD fa fn K
  v : fnB K = valB
  x : exB K = true
theorem saysM_of {g : Addr → Option Obj} (e : obsM g = (He.valD fn, valB, true)) : SaysM (He.frG g (asM g)) := by
  unfold obsM at e
  generalize He.frG g (asM g) = K at e
  have e1 : He.obsD fa fn K = He.valD fn := (Prod.mk.inj e).1
  have e2 := Prod.mk.inj (Prod.mk.inj e).2
  exact ⟨e1, e2.1, e2.2⟩
def saysH (h : Heap) : Prop := ∃ K : PySem.W.Frag, K.In h ∧ SaysM K
theorem saysH_keeps {h h' : Heap} (c : saysH h) (k : ∀ a o, h.get? a = some o → h'.get? a = some o) : saysH h' := by
  obtain ⟨K, hK, c⟩ := c
  exact ⟨K, PySem.W.Frag.In.keeps hK k, c⟩
theorem saysH_of {h : Heap} (e : obsM h.get? = (He.valD fn, valB, true)) : saysH h := ⟨_, He.frG_in, saysM_of e⟩
def hk : PySem.W.Hook where
  α := AlM
  obs := fun s => obsM s.heap.get?
  val := fun _ => (He.valD fn, valB, true)
  says := fun _ h => saysH h
  of := fun _ _ e => saysH_of e
  keeps := fun _ _ _ c k => saysH_keeps c k
def ob (s : PySem.W.SharedT) : AlM := obsM (HandSHeadRun.getT s)
theorem ob_eq (s : PySem.W.SharedT) : ob s = hk.obs s.abs := congrArg obsM (funext (HandSHeadRun.getT_eq s))
abbrev R : PySem.W.OpenRow := PySem.W.OpenLaw.row PySem.Challenge.rw_rightchance_k26_whole_texts_of_plans
end K26

end
section
set_option linter.all false
set_option maxRecDepth 100000
set_option maxHeartbeats 0
namespace K26
open PySem PySem.Spec PyProof.Rows L2
theorem run (w : World) : HandSHeadRun.RunEq R (PySem.W.view R.prog [52]) hk ob 4000 loose w := by
  intro os
  kernel_rfl
end K26

end
section
set_option linter.all false
set_option maxRecDepth 100000
set_option maxHeartbeats 0
namespace K26
open PySem PySem.Spec PyProof.Rows L2
theorem badP : BadP R.prog := ⟨by kernel_rfl, by kernel_rfl⟩
theorem facts {w : World} {K : PySem.W.Frag} {h : Heap} {mg : Str → Option Value} {f : Addr} (X : K.In h) (G : h.Ns mainGlobals mg) (hfa : mg ("law" : Str) = some (.ref f)) (c : SaysM K) :
    ∃ fd : FuncData, (∀ (s : Shared) (v : Value), BindsTo s fd ⟨[v], []⟩ [("_law_script", v)]) ∧ ∀ base : Heap, K.In base → base.Ns mainGlobals mg → FnOk R.prog w K mg base CX0 60 f fd ["_law_script"] (spLaw K) := by
  have T : Txt K mg := ⟨c.d, rfl, h, X, G⟩
  obtain ⟨fd, F⟩ := T.f_law
  have e := hfa.symm.trans T.g_law
  cases e
  have b := FunD.bindsA (ps := ["_law_script"]) F fun _ _ _ _ _ _ us hl => match us, hl with | [_], _ => rfl
  exact ⟨fd, fun s v => b s [v] rfl, fun base _ _ => ok_lawF F T (badTxt_of T c.v c.x) badP (isB_of c.x)⟩
end K26
open PySem PySem.W PySem.Calls PyProof.Rows
theorem PySem.Challenge.cw_rightchance_k26_whole_texts_of_plans_holds : PySem.Challenge.rw_rightchance_k26_whole_texts_of_plans.Holds := by
  w_on; o_law
  refine HandSHeadRun.head_any (r := OpenLaw.row PySem.Challenge.rw_rightchance_k26_whole_texts_of_plans) (q := view (OpenLaw.row PySem.Challenge.rw_rightchance_k26_whole_texts_of_plans).prog [52]) (H := K26.hk) (ob := K26.ob) (M := 4000) (loose := K26.loose) (d := HandSHeadRun.topDef (OpenLaw.row PySem.Challenge.rw_rightchance_k26_whole_texts_of_plans).prog 52) (kwd := []) K26.ob_eq
    (by kernel_rfl) (fun s => by kernel_rfl) K26.run (by kernel_rfl) (by kernel_rfl) (by kernel_rfl) (by rfl) (by first | assumption | decide +kernel) (by decide +kernel) ⟨rfl, rfl, rfl, rfl, rfl, by decide +kernel⟩ ?hw ?hc
  case hw => w_witness2
  case hc =>
    refine L2.walk_ofE (l := PySem.Challenge.rw_rightchance_k26_whole_texts_of_plans) (n := 63) (k := 60) (x := "_law_script") (CX := L2.CX0) rfl (by decide) (by kernel_rfl) ⟨rfl, by decide, by decide⟩ ?F (fun _ _ _ _ z => z)
    intro w mg fa h Y G hmg0
    obtain ⟨K, KX, c⟩ := Y
    have hmg : mg ("law" : PySem.Str) = some (.ref fa) := by
      have e : (HandSHeadRun.topDef (OpenLaw.row PySem.Challenge.rw_rightchance_k26_whole_texts_of_plans).prog 52).name = ("law" : PySem.Str) := by kernel_rfl
      rw [← e]
      exact hmg0
    obtain ⟨fd, hb, hF⟩ := K26.facts (w := w) KX G hmg c
    exact ⟨K, fd, K26.spLaw K, KX, hb, fun H a ns hl _ hS => ⟨a, ns, rfl, hS, by omega, fun _ => rfl⟩, hF⟩

end
