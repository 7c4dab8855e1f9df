import PyProof.Rows.All
import Wide.All
import OpenK.AllK
import Wide.FinOn
import KE.KStateDown
import Lean
import HandS.ForMost
import HandS.ForExc
import HandS.More
import HandS.Defaults
import HandS.Head0
import HandS.Head1
import HandS.Head2
import HandS.HeadEnd
import HandS.HeadHook1
import HandS.HeadHook2
import HandS.HeadHook3
import HandS.HeadHook4
import HandS.StrMore
import HandS.ExcIs
import PyProof.StrOps2
import PyProof.StrLawsLast
import HandS.IsInst
import HandS.Words
import KE.DataMinMax
import HandS.ExcOwn
import HandS.ListItems
import KE.KDictList
import KE.KDictSum
import KE.KRevSl
import PySem.Challenge.RW_caretrows_k25_whole_words
set_option Elab.async false
set_option linter.all false
set_option maxRecDepth 100000
set_option maxHeartbeats 0
/-! What the head reads of the exceptions' classes and of the module's tuples. -/
namespace Cr
open PySem PySem.Spec PyProof.Rows L2
def eqB (a b : Option Bool) : Bool := decide (a = b)
def excB (K : PySem.W.Frag) (C : Str) : Bool :=
  He.eqO (PySem.W.findIn K (.ref (He.ga K C)) "__getattribute__") (some (some (.builtin "BaseException.__getattribute__"))) && (He.eqO (PySem.W.findIn K (.ref (He.ga K C)) "__getattr__") (some none) &&
  (eqB (PySem.W.subIn K (.ref (He.ga K C)) (.type "BaseException")) (some true) && (PySem.W.hasDictIn K (He.ga K C) && (He.eqO (PySem.W.findIn K (.ref (He.ga K C)) "__class__") (some (some (.builtin "object.__class__"))) &&
  (He.eqO (PySem.W.specialIn K (.builtin "object.__class__") "__get__") (some (some (.builtin "getset_descriptor.__get__"))) && (eqB (PySem.W.takesIn K (.builtin "object.__class__")) (some true) && eqB (PySem.W.mroIn K (He.ga K C) (.type "object")) (some true)))))))
def exfB (K : PySem.W.Frag) (C : Str) : Bool := excB K C &&
  (eqB (PySem.W.kitOne K (.ref (He.ga K C)) (.ref (He.ga K "BadText"))) (some (decide (C = "BadText"))) && (eqB (PySem.W.kitOne K (.ref (He.ga K C)) (.ref (He.ga K "BadSize"))) (some (decide (C = "BadSize"))) &&
  (eqB (PySem.W.kitOne K (.ref (He.ga K C)) (.ref (He.ga K "BadPlace"))) (some (decide (C = "BadPlace"))) && (eqB (PySem.W.kitOne K (.ref (He.ga K C)) (.ref (He.ga K "BadMove"))) (some (decide (C = "BadMove"))) &&
  (eqB (PySem.W.kitOne K (.ref (He.ga K C)) (.type "ValueError")) (some true) && eqB (PySem.W.exmOne K (.ref (He.ga K C)) (.ref (He.ga K "CaretError"))) (some true))))))
def exAll (K : PySem.W.Frag) : Bool := exfB K "BadText" && (exfB K "BadSize" && (exfB K "BadPlace" && exfB K "BadMove"))
def movesS : List Str := ["left", "right", "wordleft", "wordright", "up", "down", "pageup", "pagedown", "home", "end", "top", "bottom", "paraup", "paradown"]
def vertT : List Str := ["up", "down", "pageup", "pagedown"]
def sheetAll (K : PySem.W.Frag) : Bool := exAll K && (He.tupB K "MOVES" (movesS.map He.Dv.str) && He.tupB K "VERTICAL" (vertT.map He.Dv.str))
end Cr

namespace Cr
open PySem PySem.Spec PyProof.Rows L2
def top (i : Nat) : Stmt := PySem.Challenge.pw_caretrows_k25_whole_words.main.body.getD i (.Pass ⟨0, 0, 0, 0⟩)
abbrev s__wall : Stmt := top 0
abbrev s_is_text : Stmt := top 11
abbrev s_look_text : Stmt := top 12
abbrev s_look_width : Stmt := top 13
abbrev s_wide : Stmt := top 14
abbrev s_Row_init : Stmt := inClass (top 15) 0
abbrev s_Row_told : Stmt := inClass (top 15) 1
abbrev s_fitting : Stmt := top 16
abbrev s_row_end : Stmt := top 17
abbrev s_paragraph_rows : Stmt := top 18
abbrev s_paragraphs : Stmt := top 19
abbrev s_rows_of : Stmt := top 20
abbrev s_row_at : Stmt := top 22
abbrev s_column_of : Stmt := top 23
abbrev s_offset_at : Stmt := top 24
abbrev s_look_offset : Stmt := top 25
abbrev s_is_soft_end : Stmt := top 26
abbrev s_Sheet_init : Stmt := inClass (top 32) 0
abbrev s_Sheet_text : Stmt := inClass (top 32) 1
abbrev s_Sheet_rows : Stmt := inClass (top 32) 2
abbrev s_Sheet_at : Stmt := inClass (top 32) 3
abbrev s_Sheet_chosen : Stmt := inClass (top 32) 4
abbrev s_Sheet_chosen_text : Stmt := inClass (top 32) 5
abbrev s_Sheet_put : Stmt := inClass (top 32) 6
abbrev s_Sheet_scroll : Stmt := inClass (top 32) 7
abbrev s_Sheet_go : Stmt := inClass (top 32) 8
abbrev s_Sheet_choose : Stmt := inClass (top 32) 9
abbrev s_Sheet_point : Stmt := inClass (top 32) 10
abbrev s_Sheet_is_letter : Stmt := inClass (top 32) 11
abbrev s_Sheet_word_right : Stmt := inClass (top 32) 12
abbrev s_Sheet_word_left : Stmt := inClass (top 32) 13
abbrev s_Sheet_flat_goal : Stmt := inClass (top 32) 14
abbrev s_Sheet_move : Stmt := inClass (top 32) 15
abbrev s_Sheet_move_rows : Stmt := inClass (top 32) 16
abbrev s_Sheet_change : Stmt := inClass (top 32) 17
abbrev s_Sheet_set_between : Stmt := inClass (top 32) 18
abbrev s_Sheet_write : Stmt := inClass (top 32) 19
abbrev s_Sheet_erase : Stmt := inClass (top 32) 20
abbrev s_Sheet_resize : Stmt := inClass (top 32) 21
abbrev s_Sheet_mark : Stmt := inClass (top 32) 22
abbrev s_Sheet_marks : Stmt := inClass (top 32) 23
abbrev s_Sheet_view : Stmt := inClass (top 32) 24
abbrev s_carried : Stmt := top 33
abbrev s__law_cell : Stmt := top 35
abbrev s__law_mix : Stmt := top 36
abbrev s__law_draw : Stmt := top 37
abbrev s__law_pick : Stmt := top 38
abbrev s_law : Stmt := top 39
def dfs : List He.DefD := [⟨("_wall", none), "_wall", "_wall", defArgs s__wall, defBody s__wall, defScope s__wall, [], []⟩, ⟨("is_text", none), "is_text", "is_text", defArgs s_is_text, defBody s_is_text, defScope s_is_text, [], []⟩, ⟨("look_text", none), "look_text", "look_text", defArgs s_look_text, defBody s_look_text, defScope s_look_text, [], []⟩, ⟨("look_width", none), "look_width", "look_width", defArgs s_look_width, defBody s_look_width, defScope s_look_width, [], []⟩, ⟨("wide", none), "wide", "wide", defArgs s_wide, defBody s_wide, defScope s_wide, [], []⟩, ⟨("Row", some "__init__"), "__init__", "Row.__init__", defArgs s_Row_init, defBody s_Row_init, defScope s_Row_init, [], []⟩, ⟨("Row", some "told"), "told", "Row.told", defArgs s_Row_told, defBody s_Row_told, defScope s_Row_told, [], []⟩, ⟨("fitting", none), "fitting", "fitting", defArgs s_fitting, defBody s_fitting, defScope s_fitting, [], []⟩, ⟨("row_end", none), "row_end", "row_end", defArgs s_row_end, defBody s_row_end, defScope s_row_end, [], []⟩, ⟨("paragraph_rows", none), "paragraph_rows", "paragraph_rows", defArgs s_paragraph_rows, defBody s_paragraph_rows, defScope s_paragraph_rows, [], []⟩, ⟨("paragraphs", none), "paragraphs", "paragraphs", defArgs s_paragraphs, defBody s_paragraphs, defScope s_paragraphs, [], []⟩, ⟨("rows_of", none), "rows_of", "rows_of", defArgs s_rows_of, defBody s_rows_of, defScope s_rows_of, [], []⟩, ⟨("row_at", none), "row_at", "row_at", defArgs s_row_at, defBody s_row_at, defScope s_row_at, [], []⟩, ⟨("column_of", none), "column_of", "column_of", defArgs s_column_of, defBody s_column_of, defScope s_column_of, [], []⟩, ⟨("offset_at", none), "offset_at", "offset_at", defArgs s_offset_at, defBody s_offset_at, defScope s_offset_at, [], []⟩, ⟨("look_offset", none), "look_offset", "look_offset", defArgs s_look_offset, defBody s_look_offset, defScope s_look_offset, [], []⟩, ⟨("is_soft_end", none), "is_soft_end", "is_soft_end", defArgs s_is_soft_end, defBody s_is_soft_end, defScope s_is_soft_end, [], []⟩, ⟨("Sheet", some "__init__"), "__init__", "Sheet.__init__", defArgs s_Sheet_init, defBody s_Sheet_init, defScope s_Sheet_init, [], []⟩, ⟨("Sheet", some "text"), "text", "Sheet.text", defArgs s_Sheet_text, defBody s_Sheet_text, defScope s_Sheet_text, [], []⟩, ⟨("Sheet", some "rows"), "rows", "Sheet.rows", defArgs s_Sheet_rows, defBody s_Sheet_rows, defScope s_Sheet_rows, [], []⟩, ⟨("Sheet", some "at"), "at", "Sheet.at", defArgs s_Sheet_at, defBody s_Sheet_at, defScope s_Sheet_at, [], []⟩, ⟨("Sheet", some "chosen"), "chosen", "Sheet.chosen", defArgs s_Sheet_chosen, defBody s_Sheet_chosen, defScope s_Sheet_chosen, [], []⟩, ⟨("Sheet", some "chosen_text"), "chosen_text", "Sheet.chosen_text", defArgs s_Sheet_chosen_text, defBody s_Sheet_chosen_text, defScope s_Sheet_chosen_text, [], []⟩, ⟨("Sheet", some "put"), "put", "Sheet.put", defArgs s_Sheet_put, defBody s_Sheet_put, defScope s_Sheet_put, [], []⟩, ⟨("Sheet", some "scroll"), "scroll", "Sheet.scroll", defArgs s_Sheet_scroll, defBody s_Sheet_scroll, defScope s_Sheet_scroll, [], []⟩, ⟨("Sheet", some "go"), "go", "Sheet.go", defArgs s_Sheet_go, defBody s_Sheet_go, defScope s_Sheet_go, [], []⟩, ⟨("Sheet", some "choose"), "choose", "Sheet.choose", defArgs s_Sheet_choose, defBody s_Sheet_choose, defScope s_Sheet_choose, [], []⟩, ⟨("Sheet", some "point"), "point", "Sheet.point", defArgs s_Sheet_point, defBody s_Sheet_point, defScope s_Sheet_point, [], []⟩, ⟨("Sheet", some "is_letter"), "is_letter", "Sheet.is_letter", defArgs s_Sheet_is_letter, defBody s_Sheet_is_letter, defScope s_Sheet_is_letter, [], []⟩, ⟨("Sheet", some "word_right"), "word_right", "Sheet.word_right", defArgs s_Sheet_word_right, defBody s_Sheet_word_right, defScope s_Sheet_word_right, [], []⟩, ⟨("Sheet", some "word_left"), "word_left", "Sheet.word_left", defArgs s_Sheet_word_left, defBody s_Sheet_word_left, defScope s_Sheet_word_left, [], []⟩, ⟨("Sheet", some "flat_goal"), "flat_goal", "Sheet.flat_goal", defArgs s_Sheet_flat_goal, defBody s_Sheet_flat_goal, defScope s_Sheet_flat_goal, [], []⟩, ⟨("Sheet", some "move"), "move", "Sheet.move", defArgs s_Sheet_move, defBody s_Sheet_move, defScope s_Sheet_move, [], []⟩, ⟨("Sheet", some "move_rows"), "move_rows", "Sheet.move_rows", defArgs s_Sheet_move_rows, defBody s_Sheet_move_rows, defScope s_Sheet_move_rows, [], []⟩, ⟨("Sheet", some "change"), "change", "Sheet.change", defArgs s_Sheet_change, defBody s_Sheet_change, defScope s_Sheet_change, [], []⟩, ⟨("Sheet", some "set_between"), "set_between", "Sheet.set_between", defArgs s_Sheet_set_between, defBody s_Sheet_set_between, defScope s_Sheet_set_between, [], []⟩, ⟨("Sheet", some "write"), "write", "Sheet.write", defArgs s_Sheet_write, defBody s_Sheet_write, defScope s_Sheet_write, [], []⟩, ⟨("Sheet", some "erase"), "erase", "Sheet.erase", defArgs s_Sheet_erase, defBody s_Sheet_erase, defScope s_Sheet_erase, [], []⟩, ⟨("Sheet", some "resize"), "resize", "Sheet.resize", defArgs s_Sheet_resize, defBody s_Sheet_resize, defScope s_Sheet_resize, [], []⟩, ⟨("Sheet", some "mark"), "mark", "Sheet.mark", defArgs s_Sheet_mark, defBody s_Sheet_mark, defScope s_Sheet_mark, [], []⟩, ⟨("Sheet", some "marks"), "marks", "Sheet.marks", defArgs s_Sheet_marks, defBody s_Sheet_marks, defScope s_Sheet_marks, [], []⟩, ⟨("Sheet", some "view"), "view", "Sheet.view", defArgs s_Sheet_view, defBody s_Sheet_view, defScope s_Sheet_view, [], []⟩, ⟨("carried", none), "carried", "carried", defArgs s_carried, defBody s_carried, defScope s_carried, [], []⟩, ⟨("_law_cell", none), "_law_cell", "_law_cell", defArgs s__law_cell, defBody s__law_cell, defScope s__law_cell, [], []⟩, ⟨("_law_mix", none), "_law_mix", "_law_mix", defArgs s__law_mix, defBody s__law_mix, defScope s__law_mix, [], []⟩, ⟨("_law_draw", none), "_law_draw", "_law_draw", defArgs s__law_draw, defBody s__law_draw, defScope s__law_draw, [], []⟩, ⟨("_law_pick", none), "_law_pick", "_law_pick", defArgs s__law_pick, defBody s__law_pick, defScope s__law_pick, [], []⟩, ⟨("law", none), "law", "law", defArgs s_law, defBody s_law, defScope s_law, [], []⟩]
def fas : List He.Fa := [.glo "_wall", .glo "is_text", .glo "look_text", .glo "look_width", .glo "wide", .glo "fitting", .glo "row_end", .glo "paragraph_rows", .glo "paragraphs", .glo "rows_of", .glo "row_at", .glo "column_of", .glo "offset_at", .glo "look_offset", .glo "is_soft_end", .glo "carried", .glo "_law_cell", .glo "_law_mix", .glo "_law_draw", .glo "_law_pick", .glo "law", .glo "CaretError", .glo "BadText", .glo "BadSize", .glo "BadPlace", .glo "BadMove", .glo "Row", .glo "Sheet", .cls "Row", .mkr "Row", .meth "Row" "told", .noat "Row" "start", .noat "Row" "end", .noat "Row" "is_soft", .cls "Sheet", .mkr "Sheet", .meth "Sheet" "text", .meth "Sheet" "rows", .meth "Sheet" "at", .meth "Sheet" "chosen", .meth "Sheet" "chosen_text", .meth "Sheet" "put", .meth "Sheet" "scroll", .meth "Sheet" "go", .meth "Sheet" "choose", .meth "Sheet" "point", .meth "Sheet" "is_letter", .meth "Sheet" "word_right", .meth "Sheet" "word_left", .meth "Sheet" "flat_goal", .meth "Sheet" "move", .meth "Sheet" "move_rows", .meth "Sheet" "change", .meth "Sheet" "set_between", .meth "Sheet" "write", .meth "Sheet" "erase", .meth "Sheet" "resize", .meth "Sheet" "mark", .meth "Sheet" "marks", .meth "Sheet" "view", .noat "Sheet" "now", .noat "Sheet" "width", .noat "Sheet" "height", .noat "Sheet" "caret", .noat "Sheet" "is_back", .noat "Sheet" "anchor", .noat "Sheet" "wish", .noat "Sheet" "first", .noat "Sheet" "marked", .int "MOST_TEXT" 2000, .int "MOST_WIDTH" 200, .str "GREAT" "ABCDEFGHIJKLMNOPQRSTUVWXYZ", .int "MOST_HEIGHT" 100, .str "LETTERS" "abcdefghijklmnopqrstuvwxyzABCDEFGHIJKLMNOPQRSTUVWXYZ0123456789", .glo "MOVES", .glo "VERTICAL", .free "abs", .free "all", .free "len", .free "list", .free "max", .free "min", .free "ord", .free "range", .free "sorted", .exc "CaretError", .exc "BadText", .exc "BadSize", .exc "BadPlace", .exc "BadMove"]
abbrev hrow : PySem.W.OpenRow := PySem.W.OpenLaw.row PySem.Challenge.rw_caretrows_k25_whole_words
abbrev hkk : PySem.W.Hook := He.hookX 5 fas dfs [] [] sheetAll
def hob (s : PySem.W.SharedT) : He.AlX := He.obsX 5 fas dfs [] [] sheetAll (HandSHeadRun.getT s)
theorem hob_eq (s : PySem.W.SharedT) : hob s = hkk.obs s.abs := He.obsX_eq (HandSHeadRun.getT_eq s)
def loose0 : List PySem.Str := ["_wall", "CaretError", "BadText", "BadSize", "BadPlace", "BadMove", "MOST_TEXT", "MOST_WIDTH", "GREAT", "is_text", "look_text", "look_width", "wide", "Row", "fitting", "row_end", "paragraph_rows", "paragraphs", "rows_of", "row_at", "column_of", "offset_at", "look_offset", "is_soft_end", "LETTERS", "MOVES", "VERTICAL", "MOST_HEIGHT", "Sheet", "carried"]
def loose1 : List PySem.Str := ["_law_cell", "_law_mix", "_law_draw", "_law_pick"]
abbrev loose : List PySem.Str := loose0 ++ loose1
theorem hrun (w : World) : HandSHeadRun.RunEq hrow (PySem.W.view hrow.prog [39]) hkk hob 8000 loose w := by
  intro os
  kernel_rfl
end Cr

/-! The data-level layer: plain data, owned objects, judgements W, WT, WA, T. -/
namespace Cr
open PySem L2

/-! ### texts as lists of signs -/
def S (l : List Nat) : Str := ⟨l.toArray⟩
theorem S_len (l : List Nat) : (S l).length = l.length := by simp [S, Str.length]
theorem S_tl (l : List Nat) : (S l).cps.toList = l := rfl
theorem S_app (a b : List Nat) : S a ++ S b = S (a ++ b) := TL.ext_tl (by rw [TL.tl_append]; rfl)
theorem S_inj {a b : List Nat} (h : S a = S b) : a = b := by
  have := congrArg (fun z : Str => z.cps.toList) h
  exact this
theorem S_of (z : Str) : z = S z.cps.toList := TL.ext_tl rfl

/-! ### data -/
inductive Da where
  | non | bl (b : Bool) | int (i : Int) | str (l : List Nat) | lst (xs : List Da) | tup (xs : List Da) | row (s e : Int) (b : Bool) | exc (C : Str) | scr (ns : List Int)
def rowF (s e : Int) (b : Bool) : List (Str × V) := [("start", .int s), ("end", .int e), ("is_soft", .bl b)]
/-- an exception that was caught, kept as a value -/
def ExH (cls : Value) (a : Addr) : HO := .ext fun h => ∃ (oe : Obj) (vs : Array Value), h.get? a = some oe ∧ Zc cls none oe ∧ oe.data = .fields vs
mutual
inductive Rp (K : PySem.W.Frag) (H : Hp) : V → Da → Prop
  | non : Rp K H .non .non
  | bl (b : Bool) : Rp K H (.bl b) (.bl b)
  | int (i : Int) : Rp K H (.int i) (.int i)
  | str (l : List Nat) : Rp K H (.str (S l)) (.str l)
  | lst {a : Addr} {xs : List V} {ds : List Da} : H a = some (.lst xs) → RpAll K H xs ds → Rp K H (.ref a) (.lst ds)
  | scr {a : Addr} {ns : List Int} : SqL K H a (ns.map V.int) → Rp K H (.ref a) (.scr ns)
  | tup {a : Addr} {xs : List V} {ds : List Da} : SqT K H a xs → RpAll K H xs ds → Rp K H (.ref a) (.tup ds)
  | row {a dx : Addr} {s e : Int} {b : Bool} : H a = some (.ins (He.ga K "Row") dx (rowF s e b)) → Rp K H (.ref a) (.row s e b)
  | exc {a : Addr} {C : Str} : H a = some (ExH (.ref (He.ga K C)) a) → Rp K H (.ref a) (.exc C)
inductive RpAll (K : PySem.W.Frag) (H : Hp) : List V → List Da → Prop
  | nil : RpAll K H [] []
  | cons {v : V} {vs : List V} {d : Da} {ds : List Da} : Rp K H v d → RpAll K H vs ds → RpAll K H (v :: vs) (d :: ds)
end
section
variable {K : PySem.W.Frag} {H H' : Hp}
theorem same_t {a : Addr} {xs : List V} (e : Same H H') (h : SqT K H a xs) : SqT K H' a xs := by
  rcases h with (h | ⟨o, h⟩) | h
  · exact .inl (.inl (e _ _ h))
  · exact .inl (.inr ⟨o, e _ _ h⟩)
  · exact .inr h
mutual
theorem Rp.mono (e : Same H H') : ∀ {v : V} {d : Da}, Rp K H v d → Rp K H' v d
  | _, _, .non => .non
  | _, _, .bl b => .bl b
  | _, _, .int i => .int i
  | _, _, .str l => .str l
  | _, _, .lst h a => .lst (e _ _ h) (RpAll.mono e a)
  | _, _, .scr h => .scr (e.seq h)
  | _, _, .tup h a => .tup (same_t e h) (RpAll.mono e a)
  | _, _, .row h => .row (e _ _ h)
  | _, _, .exc h => .exc (e _ _ h)
theorem RpAll.mono (e : Same H H') : ∀ {vs : List V} {ds : List Da}, RpAll K H vs ds → RpAll K H' vs ds
  | _, _, .nil => .nil
  | _, _, .cons h t => .cons (Rp.mono e h) (RpAll.mono e t)
end
theorem RpAll.length : ∀ {vs : List V} {ds : List Da}, RpAll K H vs ds → vs.length = ds.length
  | _, _, .nil => rfl
  | _, _, .cons _ t => by rw [List.length_cons, List.length_cons, RpAll.length t]
theorem RpAll.append : ∀ {vs us : List V} {ds es : List Da}, RpAll K H vs ds → RpAll K H us es → RpAll K H (vs ++ us) (ds ++ es)
  | _, _, _, _, .nil, q => q
  | _, _, _, _, .cons h t, q => .cons h (RpAll.append t q)
theorem RpAll.get : ∀ {vs : List V} {ds : List Da} {i : Nat} {d : Da}, RpAll K H vs ds → ds[i]? = some d → ∃ v, vs[i]? = some v ∧ Rp K H v d
  | _, _, _, _, .nil, e => by simp at e
  | _, _, 0, _, .cons h _, e => by simp at e; subst e; exact ⟨_, rfl, h⟩
  | _, _, i + 1, _, .cons _ t, e => by
    obtain ⟨v, h1, h2⟩ := RpAll.get (i := i) t (by simpa using e)
    exact ⟨v, by simpa using h1, h2⟩
theorem RpAll.getV : ∀ {vs : List V} {ds : List Da} {i : Nat} {v : V}, RpAll K H vs ds → vs[i]? = some v → ∃ d, ds[i]? = some d ∧ Rp K H v d
  | _, _, _, _, .nil, e => by simp at e
  | _, _, 0, _, .cons h _, e => by simp at e; subst e; exact ⟨_, rfl, h⟩
  | _, _, i + 1, _, .cons _ t, e => by
    obtain ⟨d, h1, h2⟩ := RpAll.getV (i := i) t (by simpa using e)
    exact ⟨d, by simpa using h1, h2⟩
theorem RpAll.take : ∀ {vs : List V} {ds : List Da} (n : Nat), RpAll K H vs ds → RpAll K H (vs.take n) (ds.take n)
  | _, _, 0, _ => .nil
  | _, _, _ + 1, .nil => .nil
  | _, _, n + 1, .cons r t => .cons r (RpAll.take n t)
theorem RpAll.drop : ∀ {vs : List V} {ds : List Da} (n : Nat), RpAll K H vs ds → RpAll K H (vs.drop n) (ds.drop n)
  | _, _, 0, r => r
  | _, _, _ + 1, .nil => .nil
  | _, _, n + 1, .cons _ t => RpAll.drop n t
theorem RpAll.ints {ns : List Int} : ∀ {vs : List V}, RpAll K H vs (ns.map Da.int) → vs = ns.map V.int := by
  induction ns with
  | nil => intro vs h; cases h; rfl
  | cons n r ih =>
    intro vs h
    cases h with
    | cons h t => cases h; rw [ih t]; rfl
theorem rpAll_ints (ns : List Int) : RpAll K H (ns.map V.int) (ns.map Da.int) := by
  induction ns with
  | nil => exact .nil
  | cons n r ih => exact .cons (.int n) ih
theorem RpAll.bls {ns : List Bool} : ∀ {vs : List V}, RpAll K H vs (ns.map Da.bl) → vs = ns.map V.bl := by
  induction ns with
  | nil => intro vs h; cases h; rfl
  | cons n r ih =>
    intro vs h
    cases h with
    | cons h t => cases h; rw [ih t]; rfl
theorem RpAll.strs {ns : List (List Nat)} : ∀ {vs : List V}, RpAll K H vs (ns.map Da.str) → vs = (ns.map S).map V.str := by
  induction ns with
  | nil => intro vs h; cases h; rfl
  | cons n r ih =>
    intro vs h
    cases h with
    | cons h t => cases h; rw [ih t]; rfl
theorem rpAll_strs (ns : List (List Nat)) : RpAll K H ((ns.map S).map V.str) (ns.map Da.str) := by
  induction ns with
  | nil => exact .nil
  | cons n r ih => exact .cons (.str n) ih
theorem same_new {p : Addr} {o : HO} (h : H p = none) : Same H (upd H p o) := fun a u e => by
  rw [upd_ne (ne_of_none e h)]
  exact e
end

/-! ### owned objects -/
structure OwnA where
  ok : Hp → Hp → (Addr → Prop) → Addr → Prop
  mono : ∀ {Hb Hb' H : Hp} {F : Addr → Prop} {p : Addr}, Same Hb Hb' → ok Hb H F p → ok Hb' H F p
  loc : ∀ {Hb H H' : Hp} {F : Addr → Prop} {p : Addr}, (∀ a, F a → H' a = H a) → ok Hb H F p → ok Hb H' F p
  root : ∀ {Hb H : Hp} {F : Addr → Prop} {p : Addr}, ok Hb H F p → H p ≠ none ∧ F p
inductive Dx where
  | d (x : Da)
  | o (p : Addr) (A : OwnA)
abbrev Dl := List (Option Dx)
/-- whose an address is: the root of the owned object -/
abbrev Ow := Addr → Option Addr
def Rx (K : PySem.W.Frag) (w : Ow) (Hb H : Hp) (v : V) : Dx → Prop
  | .d x => Rp K Hb v x
  | .o p A => v = .ref p ∧ A.ok Hb H (fun a => w a = some p) p
structure SD (K : PySem.W.Frag) (w : Ow) (Hb H : Hp) (σ : St) (δ : Dl) : Prop where
  sub : Same Hb H
  dis : ∀ a p, w a = some p → Hb a = none
  dom : ∀ a p, w a = some p → H a ≠ none ∧ H p ≠ none
  uniq : ∀ (i j : Nat) (p : Addr) (A B : OwnA), δ[i]? = some (some (.o p A)) → δ[j]? = some (some (.o p B)) → i = j
  val : ∀ (i : Nat) (x : Dx), δ[i]? = some (some x) → ∃ v, σ[i]? = some (some v) ∧ Rx K w Hb H v x
  len : δ.length = σ.length
structure Fm (w : Ow) (Hb H : Hp) (w' : Ow) (Hb' H' : Hp) : Prop where
  b : Same Hb Hb'
  fr : ∀ a o, H a = some o → w a = none → Hb a = none → H' a = some o ∧ w' a = none ∧ Hb' a = none
  al : ∀ a, H a ≠ none → H' a ≠ none
  rt : ∀ a p, w' a = some p → (∃ b, w b = some p) ∨ H p = none
theorem Fm.refl (w : Ow) (Hb H : Hp) : Fm w Hb H w Hb H := ⟨Same.refl _, fun _ _ h1 h2 h3 => ⟨h1, h2, h3⟩, fun a h => h, fun a p h => .inl ⟨a, h⟩⟩
theorem Fm.trans {w w1 w2 : Ow} {Hb H Hb1 H1 Hb2 H2 : Hp} (a : Fm w Hb H w1 Hb1 H1) (b : Fm w1 Hb1 H1 w2 Hb2 H2) : Fm w Hb H w2 Hb2 H2 where
  b := a.b.trans b.b
  fr := fun x o h1 h2 h3 => by
    obtain ⟨k1, k2, k3⟩ := a.fr x o h1 h2 h3
    exact b.fr x o k1 k2 k3
  al := fun x h => b.al x (a.al x h)
  rt := fun x p h => by
    rcases b.rt x p h with ⟨c, hc⟩ | hc
    · exact a.rt c p hc
    · refine .inr ?_
      cases e : H p with
      | none => rfl
      | some o => exact absurd hc (a.al p (by rw [e]; exact fun z => nomatch z))
theorem same_al {H H' : Hp} (e : Same H H') (a : Addr) (h : H a ≠ none) : H' a ≠ none := fun z => h (e.free z)
section
variable {K : PySem.W.Frag} {w : Ow} {Hb H : Hp} {σ : St} {δ : Dl}
theorem SD.free (s : SD K w Hb H σ δ) {p : Addr} (h : H p = none) : Hb p = none := s.sub.free h
theorem SD.wfree (s : SD K w Hb H σ δ) {p : Addr} (h : H p = none) : w p = none := by
  cases e : w p with
  | none => rfl
  | some i => exact absurd h (s.dom _ _ e).1
/-- new data -/
theorem SD.new (s : SD K w Hb H σ δ) {p : Addr} {o : HO} (h : H p = none) : SD K w (upd Hb p o) (upd H p o) σ δ ∧ Fm w Hb H w (upd Hb p o) (upd H p o) := by
  have hb := s.free h
  have nw : ∀ a i, w a = some i → a ≠ p := fun a i e z => (s.dom a i e).1 (by rw [z]; exact h)
  have sh : Same H (upd H p o) := same_new h
  refine ⟨⟨fun a u e => ?_, fun a i e => ?_, fun a i e => ⟨same_al sh _ (s.dom a i e).1, same_al sh _ (s.dom a i e).2⟩, s.uniq, fun i x e => ?_, s.len⟩, ⟨same_new hb, fun a u h1 h2 h3 => ?_, fun a h1 => same_al sh a h1, fun a q h1 => .inl ⟨a, h1⟩⟩⟩
  · by_cases q : a = p
    · subst q; rw [upd_same] at e ⊢; exact e
    · rw [upd_ne q] at e ⊢; exact s.sub a u e
  · rw [upd_ne (nw a i e)]; exact s.dis a i e
  · obtain ⟨v, h1, h2⟩ := s.val i x e
    refine ⟨v, h1, ?_⟩
    cases x with
    | d x => exact Rp.mono (same_new hb) h2
    | o q A => exact ⟨h2.1, A.loc (fun a ha => upd_ne (nw a q ha)) (A.mono (same_new hb) h2.2)⟩
  · have q : a ≠ p := ne_of_none h1 h
    exact ⟨by rw [upd_ne q]; exact h1, h2, by rw [upd_ne q]; exact h3⟩
/-- something new that is neither data nor owned -/
theorem SD.side (s : SD K w Hb H σ δ) {p : Addr} {o : HO} (h : H p = none) : SD K w Hb (upd H p o) σ δ ∧ Fm w Hb H w Hb (upd H p o) := by
  have nw : ∀ a i, w a = some i → a ≠ p := fun a i e z => (s.dom a i e).1 (by rw [z]; exact h)
  have sh : Same H (upd H p o) := same_new h
  refine ⟨⟨s.sub.trans sh, s.dis, fun a i e => ⟨same_al sh _ (s.dom a i e).1, same_al sh _ (s.dom a i e).2⟩, s.uniq, fun i x e => ?_, s.len⟩, ⟨Same.refl _, fun a u h1 h2 h3 => ⟨sh a u h1, h2, h3⟩, fun a h1 => same_al sh a h1, fun a q h1 => .inl ⟨a, h1⟩⟩⟩
  obtain ⟨v, h1, h2⟩ := s.val i x e
  refine ⟨v, h1, ?_⟩
  cases x with
  | d x => exact h2
  | o q A => exact ⟨h2.1, A.loc (fun a ha => upd_ne (nw a q ha)) h2.2⟩
/-- what stands beside becomes data -/
theorem SD.take (s : SD K w Hb H σ δ) {p : Addr} {o : HO} (h : H p = some o) (hw : w p = none) (hb : Hb p = none) : SD K w (upd Hb p o) H σ δ := by
  have nw : ∀ a i, w a = some i → a ≠ p := fun a i e z => by rw [z, hw] at e; cases e
  refine ⟨fun a u e => ?_, fun a i e => ?_, s.dom, s.uniq, fun i x e => ?_, s.len⟩
  · by_cases q : a = p
    · subst q; rw [upd_same] at e; cases e; exact h
    · rw [upd_ne q] at e; exact s.sub a u e
  · rw [upd_ne (nw a i e)]; exact s.dis a i e
  · obtain ⟨v, h1, h2⟩ := s.val i x e
    refine ⟨v, h1, ?_⟩
    cases x with
    | d x => exact Rp.mono (same_new hb) h2
    | o q A => exact ⟨h2.1, A.mono (same_new hb) h2.2⟩
/-- a slot gets data -/
theorem SD.set (s : SD K w Hb H σ δ) {i : Nat} {v : V} {x : Da} (h : Rp K Hb v x) : SD K w Hb H (σ.set i (some v)) (δ.set i (some (.d x))) := by
  have back : ∀ (j : Nat) (p : Addr) (A : OwnA), (δ.set i (some (.d x)))[j]? = some (some (.o p A)) → j ≠ i ∧ δ[j]? = some (some (.o p A)) := fun j p A e => by
    by_cases q : j = i
    · subst q
      have hl : j < δ.length := by
        have := (List.getElem?_eq_some_iff.mp e).1
        simpa using this
      rw [List.getElem?_set_self hl] at e
      cases e
    · rw [List.getElem?_set_ne (Ne.symm q)] at e
      exact ⟨q, e⟩
  refine ⟨s.sub, s.dis, s.dom, fun j k p A B h1 h2 => s.uniq j k p A B (back j p A h1).2 (back k p B h2).2, fun j y e => ?_, by simp [s.len]⟩
  by_cases q : j = i
  · subst q
    have hl : j < δ.length := by
      have := (List.getElem?_eq_some_iff.mp e).1
      simpa using this
    rw [List.getElem?_set_self hl] at e
    cases e
    exact ⟨v, List.getElem?_set_self (by rw [← s.len]; exact hl), h⟩
  · rw [List.getElem?_set_ne (Ne.symm q)] at e
    obtain ⟨u, h1, h2⟩ := s.val j y e
    exact ⟨u, by rw [List.getElem?_set_ne (Ne.symm q)]; exact h1, h2⟩
/-- a slot is forgotten -/
theorem SD.forget (s : SD K w Hb H σ δ) (i : Nat) : SD K w Hb H σ (δ.set i none) := by
  have back : ∀ (j : Nat) (y : Dx), (δ.set i none)[j]? = some (some y) → δ[j]? = some (some y) := fun j y e => by
    by_cases q : j = i
    · subst q
      have hl : j < δ.length := by
        have := (List.getElem?_eq_some_iff.mp e).1
        simpa using this
      rw [List.getElem?_set_self hl] at e
      cases e
    · rw [List.getElem?_set_ne (Ne.symm q)] at e
      exact e
  exact ⟨s.sub, s.dis, s.dom, fun j k p A B h1 h2 => s.uniq j k p A B (back j _ h1) (back k _ h2), fun j y e => s.val j y (back j y e), by simp [s.len]⟩
/-- a slot gets an owned object, made of new addresses F -/
theorem SD.setOwn (s : SD K w Hb H σ δ) {i : Nat} {p : Addr} {A : OwnA} {H' : Hp} {F : Addr → Prop} [DecidablePred F] (hp : H p = none) (hF : ∀ a, F a → H a = none) (hH : Same H H') (hF2 : ∀ a, F a → H' a ≠ none) (hA : A.ok Hb H' F p) :
    SD K (fun a => if F a then some p else w a) Hb H' (σ.set i (some (.ref p))) (δ.set i (some (.o p A))) ∧ Fm w Hb H (fun a => if F a then some p else w a) Hb H' := by
  have nF : ∀ a j, w a = some j → ¬ F a := fun a j e z => (s.dom a j e).1 (hF a z)
  have hp' := (A.root hA).1
  have notp : ∀ (j : Nat) (B : OwnA), δ[j]? = some (some (.o p B)) → False := fun j B e => by
    obtain ⟨v, _, _, k⟩ := s.val j _ e
    exact (B.root k).1 hp
  have back : ∀ (j : Nat) (q : Addr) (B : OwnA), (δ.set i (some (.o p A)))[j]? = some (some (.o q B)) → (j = i ∧ q = p) ∨ (j ≠ i ∧ δ[j]? = some (some (.o q B))) := fun j q B e => by
    by_cases z : j = i
    · subst z
      have hl : j < δ.length := by
        have := (List.getElem?_eq_some_iff.mp e).1
        simpa using this
      rw [List.getElem?_set_self hl] at e
      cases e
      exact .inl ⟨rfl, rfl⟩
    · rw [List.getElem?_set_ne (Ne.symm z)] at e
      exact .inr ⟨z, e⟩
  refine ⟨⟨s.sub.trans hH, fun a j e => ?_, fun a j e => ?_, fun j k q B C h1 h2 => ?_, fun j y e => ?_, by simp [s.len]⟩, ⟨Same.refl _, fun a u h1 h2 h3 => ⟨hH a u h1, ?_, h3⟩, fun a h1 => same_al hH a h1, fun a q h1 => ?_⟩⟩
  · by_cases z : F a
    · exact s.free (hF a z)
    · simp only [if_neg z] at e
      exact s.dis a j e
  · by_cases z : F a
    · simp only [if_pos z] at e
      cases e
      exact ⟨hF2 a z, hp'⟩
    · simp only [if_neg z] at e
      exact ⟨same_al hH _ (s.dom a j e).1, same_al hH _ (s.dom a j e).2⟩
  · rcases back j q B h1 with ⟨e1, e2⟩ | ⟨n1, e1⟩
    · rcases back k q C h2 with ⟨e3, _⟩ | ⟨_, e3⟩
      · rw [e1, e3]
      · rw [e2] at e3
        exact (notp k C e3).elim
    · rcases back k q C h2 with ⟨_, e3⟩ | ⟨_, e3⟩
      · rw [e3] at e1
        exact (notp j B e1).elim
      · exact s.uniq j k q B C e1 e3
  · by_cases q : j = i
    · subst q
      have hl : j < δ.length := by
        have := (List.getElem?_eq_some_iff.mp e).1
        simpa using this
      rw [List.getElem?_set_self hl] at e
      cases e
      refine ⟨.ref p, List.getElem?_set_self (by rw [← s.len]; exact hl), rfl, ?_⟩
      have e2 : (fun a => (if F a then some p else w a) = some p) = F := funext fun a => propext ⟨fun h => by
        by_cases z : F a
        · exact z
        · rw [if_neg z] at h
          exact absurd hp (s.dom a p h).2, fun h => by rw [if_pos h]⟩
      rw [e2]
      exact hA
    · rw [List.getElem?_set_ne (Ne.symm q)] at e
      obtain ⟨u, h1, h2⟩ := s.val j y e
      refine ⟨u, by rw [List.getElem?_set_ne (Ne.symm q)]; exact h1, ?_⟩
      cases y with
      | d y => exact h2
      | o r B =>
        refine ⟨h2.1, ?_⟩
        have nr : r ≠ p := fun z => by
          rw [z] at e
          exact notp j B e
        have e2 : (fun a => (if F a then some p else w a) = some r) = (fun a => w a = some r) := funext fun a => propext ⟨fun h => by
          by_cases z : F a
          · rw [if_pos z] at h
            exact absurd (Option.some.inj h).symm nr
          · rw [if_neg z] at h
            exact h, fun h => by
          rw [if_neg (nF a r h)]
          exact h⟩
        rw [e2]
        refine B.loc (fun a ha => ?_) h2.2
        cases e3 : H a with
        | none => exact absurd e3 (s.dom a r ha).1
        | some o => exact hH a o e3
  · have z : ¬ F a := fun z => by
      rw [hF a z] at h1
      cases h1
    simp only [if_neg z]
    exact h2
  · by_cases z : F a
    · simp only [if_pos z] at h1
      cases h1
      exact .inr hp
    · simp only [if_neg z] at h1
      exact .inl ⟨a, h1⟩
/-- an owned object turns; the new addresses G come to it -/
theorem SD.turn (s : SD K w Hb H σ δ) {i : Nat} {p : Addr} {A A' : OwnA} {H' : Hp} {G : Addr → Prop} [DecidablePred G] (hi : δ[i]? = some (some (.o p A))) (hG : ∀ a, G a → H a = none) (hG2 : ∀ a, G a → H' a ≠ none) (keep : ∀ a o, H a = some o → w a ≠ some p → H' a = some o) (al : ∀ a, H a ≠ none → H' a ≠ none)
    (hA : A'.ok Hb H' (fun a => w a = some p ∨ G a) p) : SD K (fun a => if G a then some p else w a) Hb H' σ (δ.set i (some (.o p A'))) ∧ Fm w Hb H (fun a => if G a then some p else w a) Hb H' := by
  have hl : i < δ.length := (List.getElem?_eq_some_iff.mp hi).1
  have nG : ∀ a j, w a = some j → ¬ G a := fun a j e z => (s.dom a j e).1 (hG a z)
  have back : ∀ (j : Nat) (q : Addr) (B : OwnA), (δ.set i (some (.o p A')))[j]? = some (some (.o q B)) → ∃ C, δ[j]? = some (some (.o q C)) := fun j q B e => by
    by_cases z : j = i
    · subst z
      rw [List.getElem?_set_self hl] at e
      cases e
      exact ⟨A, hi⟩
    · rw [List.getElem?_set_ne (Ne.symm z)] at e
      exact ⟨B, e⟩
  have hwp : ∀ a u, Hb a = some u → w a ≠ some p := fun a u e z => by
    rw [s.dis a p z] at e
    cases e
  refine ⟨⟨fun a u e => keep a u (s.sub a u e) (hwp a u e), fun a j e => ?_, fun a j e => ?_, fun j k q B C h1 h2 => ?_, fun j y e => ?_, by simp [s.len]⟩, ⟨Same.refl _, fun a u h1 h2 h3 => ⟨keep a u h1 (by rw [h2]; exact fun z => nomatch z), ?_, h3⟩, al, fun a q h1 => ?_⟩⟩
  · by_cases z : G a
    · exact s.free (hG a z)
    · simp only [if_neg z] at e
      exact s.dis a j e
  · by_cases z : G a
    · simp only [if_pos z] at e
      cases e
      exact ⟨hG2 a z, (A'.root hA).1⟩
    · simp only [if_neg z] at e
      exact ⟨al a (s.dom a j e).1, al j (s.dom a j e).2⟩
  · obtain ⟨B', h1⟩ := back j q B h1
    obtain ⟨C', h2⟩ := back k q C h2
    exact s.uniq j k q _ _ h1 h2
  · by_cases q : j = i
    · subst q
      rw [List.getElem?_set_self hl] at e
      cases e
      obtain ⟨v, h1, h2, _⟩ := s.val j _ hi
      refine ⟨v, h1, h2, ?_⟩
      have e2 : (fun a => (if G a then some p else w a) = some p) = (fun a => w a = some p ∨ G a) := funext fun a => propext ⟨fun h => by
        by_cases z : G a
        · exact .inr z
        · rw [if_neg z] at h
          exact .inl h, fun h => by
        by_cases z : G a
        · rw [if_pos z]
        · rw [if_neg z]
          exact h.resolve_right z⟩
      rw [e2]
      exact hA
    · rw [List.getElem?_set_ne (Ne.symm q)] at e
      obtain ⟨u, h1, h2⟩ := s.val j y e
      refine ⟨u, h1, ?_⟩
      cases y with
      | d y => exact h2
      | o r B =>
        have nr : r ≠ p := fun z => by
          rw [z] at e
          exact q (s.uniq j i p B A e hi)
        refine ⟨h2.1, ?_⟩
        have e2 : (fun a => (if G a then some p else w a) = some r) = (fun a => w a = some r) := funext fun a => propext ⟨fun h => by
          by_cases z : G a
          · rw [if_pos z] at h
            exact absurd (Option.some.inj h).symm nr
          · rw [if_neg z] at h
            exact h, fun h => by
          rw [if_neg (nG a r h)]
          exact h⟩
        rw [e2]
        refine B.loc (fun a ha => ?_) h2.2
        cases e3 : H a with
        | none => exact absurd e3 (s.dom a r ha).1
        | some o => exact keep a o e3 (by rw [ha]; exact fun z => nr (Option.some.inj z))
  · have z : ¬ G a := fun z => by
      rw [hG a z] at h1
      cases h1
    simp only [if_neg z]
    exact h2
  · by_cases z : G a
    · simp only [if_pos z] at h1
      cases h1
      obtain ⟨v, _, _, k⟩ := s.val i _ hi
      exact .inl ⟨p, (A.root k).2⟩
    · simp only [if_neg z] at h1
      exact .inl ⟨a, h1⟩
/-- the same, nothing new -/
theorem SD.turn0 (s : SD K w Hb H σ δ) {i : Nat} {p : Addr} {A A' : OwnA} {H' : Hp} (hi : δ[i]? = some (some (.o p A))) (keep : ∀ a o, H a = some o → w a ≠ some p → H' a = some o) (al : ∀ a, H a ≠ none → H' a ≠ none)
    (hA : A'.ok Hb H' (fun a => w a = some p) p) : SD K w Hb H' σ (δ.set i (some (.o p A'))) ∧ Fm w Hb H w Hb H' := by
  have e : (fun a => w a = some p ∨ False) = (fun a => w a = some p) := funext fun a => propext ⟨fun h => h.resolve_right id, .inl⟩
  have z := s.turn (G := fun _ => False) hi (fun _ h => h.elim) (fun _ h => h.elim) keep al (by rw [e]; exact hA)
  simpa using z
/-- an owned object becomes data -/
theorem SD.freeze (s : SD K w Hb H σ δ) {i : Nat} {p : Addr} {A : OwnA} {d : Da} (hi : δ[i]? = some (some (.o p A))) {Hn : Hp} (h1 : Same Hb Hn) (h2 : Same Hn H) (h3 : ∀ a o, Hn a = some o → Hb a = none → w a = some p) (hd : Rp K Hn (.ref p) d) :
    ∃ w', SD K w' Hn H σ (δ.set i (some (.d d))) ∧ Fm w Hb H w' Hn H := by
  classical
  have hl : i < δ.length := (List.getElem?_eq_some_iff.mp hi).1
  refine ⟨fun a => if w a = some p then none else w a, ⟨h2, fun a j e => ?_, fun a j e => ?_, fun j k q B C e1 e2 => ?_, fun j y e => ?_, by simp [s.len]⟩, ⟨h1, fun a u k1 k2 k3 => ⟨k1, by simp [k2], ?_⟩, fun a k => k, fun a q k => ?_⟩⟩
  · split at e
    · cases e
    · rename_i n
      cases z : Hn a with
      | none => rfl
      | some u => exact absurd (h3 a u z (s.dis a j e)) n
  · split at e
    · cases e
    · exact s.dom a j e
  · have back : ∀ (j : Nat) (q : Addr) (B : OwnA), (δ.set i (some (.d d)))[j]? = some (some (.o q B)) → δ[j]? = some (some (.o q B)) := fun j q B e => by
      by_cases z : j = i
      · subst z
        rw [List.getElem?_set_self hl] at e
        cases e
      · rw [List.getElem?_set_ne (Ne.symm z)] at e
        exact e
    exact s.uniq j k q B C (back _ _ _ e1) (back _ _ _ e2)
  · by_cases q : j = i
    · subst q
      rw [List.getElem?_set_self hl] at e
      cases e
      obtain ⟨v, k1, k2, _⟩ := s.val j _ hi
      subst k2
      exact ⟨_, k1, hd⟩
    · rw [List.getElem?_set_ne (Ne.symm q)] at e
      obtain ⟨u, k1, k2⟩ := s.val j y e
      refine ⟨u, k1, ?_⟩
      cases y with
      | d y => exact Rp.mono h1 k2
      | o r B =>
        have nr : r ≠ p := fun z => by
          rw [z] at e
          exact q (s.uniq j i p B A e hi)
        refine ⟨k2.1, ?_⟩
        have e2 : (fun a => (if w a = some p then none else w a) = some r) = (fun a => w a = some r) := funext fun a => propext ⟨fun h => by
          split at h
          · cases h
          · exact h, fun h => by
          rw [if_neg (by rw [h]; exact fun z => nr (Option.some.inj z))]
          exact h⟩
        rw [e2]
        exact B.mono h1 k2.2
  · cases z : Hn a with
    | none => rfl
    | some o =>
      have := h3 a o z k3
      rw [k2] at this
      cases this
  · split at k
    · cases k
    · exact .inl ⟨a, k⟩
end
end Cr

namespace Cr
open PySem L2

inductive Vx where
  | d (x : Da)
  | a (p : Addr)
  | t (n : String)
def Rv (K : PySem.W.Frag) (Hb : Hp) (v : V) : Vx → Prop
  | .d x => Rp K Hb v x
  | .a p => v = .ref p
  | .t n => v = .ty n
theorem Rv.mono {K : PySem.W.Frag} {Hb Hb' : Hp} {v : V} {x : Vx} (e : Same Hb Hb') (h : Rv K Hb v x) : Rv K Hb' v x := by
  cases x with
  | d x => exact Rp.mono e h
  | a p => exact h
  | t n => exact h
abbrev PX := Vx → Dl → Prop
abbrev XX := Str → Dl → Prop
abbrev X0 : XX := fun _ _ => False
/-- what is wanted of exceptions: from the state w Hb H on -/
def XC (K : PySem.W.Frag) (E : WX) (X : XX) (w : Ow) (σ : St) (Hb H : Hp) : Prop := ∀ C δ' w' Hb' H', X C δ' → SD K w' Hb' H' σ δ' → Fm w Hb H w' Hb' H' → E (.ref (He.ga K C)) none σ H'
theorem XC.on {K : PySem.W.Frag} {E : WX} {X : XX} {w w1 : Ow} {σ : St} {Hb H Hb1 H1 : Hp} (h : XC K E X w σ Hb H) (f : Fm w Hb H w1 Hb1 H1) : XC K E X w1 σ Hb1 H1 := fun C δ' w' Hb' H' a b c => h C δ' w' Hb' H' a b (f.trans c)
def W (K : PySem.W.Frag) (E : WX) (te : TE) (δ : Dl) (P : PX) (X : XX) : Prop :=
  ∀ (w : Ow) (σ : St) (Hb H : Hp), SD K w Hb H σ δ → ∀ Q : VK,
    (∀ x δ' v w' Hb' H', P x δ' → SD K w' Hb' H' σ δ' → Rv K Hb' v x → Fm w Hb H w' Hb' H' → Q v H') → XC K E X w σ Hb H → te σ H Q
def WT (K : PySem.W.Frag) (E : WX) (tt : TT) (δ : Dl) (P : Bool → Dl → Prop) (X : XX) : Prop :=
  ∀ (w : Ow) (σ : St) (Hb H : Hp), SD K w Hb H σ δ → ∀ Q : Bool → Hp → Prop,
    (∀ b δ' w' Hb' H', P b δ' → SD K w' Hb' H' σ δ' → Fm w Hb H w' Hb' H' → Q b H') → XC K E X w σ Hb H → tt σ H Q
def WA (K : PySem.W.Frag) (E : WX) (ta : TA) (δ : Dl) (P : List Vx → Dl → Prop) (X : XX) : Prop :=
  ∀ (w : Ow) (σ : St) (Hb H : Hp), SD K w Hb H σ δ → ∀ Q : List V → Hp → Prop,
    (∀ xs δ' vs w' Hb' H', P xs δ' → SD K w' Hb' H' σ δ' → Paired (Rv K Hb') vs xs → Fm w Hb H w' Hb' H' → Q vs H') → XC K E X w σ Hb H → ta σ H Q
/-- all data -/
def WD (K : PySem.W.Frag) (E : WX) (ta : TA) (δ : Dl) (P : List Da → Dl → Prop) (X : XX) : Prop :=
  ∀ (w : Ow) (σ : St) (Hb H : Hp), SD K w Hb H σ δ → ∀ Q : List V → Hp → Prop,
    (∀ ds δ' vs w' Hb' H', P ds δ' → SD K w' Hb' H' σ δ' → RpAll K Hb' vs ds → Fm w Hb H w' Hb' H' → Q vs H') → XC K E X w σ Hb H → ta σ H Q
/-- a target -/
def G (K : PySem.W.Frag) (g : TG) (d : Da) (δ : Dl) (P : Dl → Prop) : Prop :=
  ∀ (w : Ow) (σ : St) (Hb H : Hp) (v : V), SD K w Hb H σ δ → Rp K Hb v d → ∀ Q : St → Hp → Prop,
    (∀ δ' w' σ', P δ' → SD K w' Hb H σ' δ' → Fm w Hb H w' Hb H → Q σ' H) → g v σ H Q
def GS (K : PySem.W.Frag) (g : TGs) (ds : List Da) (δ : Dl) (P : Dl → Prop) : Prop :=
  ∀ (w : Ow) (σ : St) (Hb H : Hp) (vs : List V), SD K w Hb H σ δ → RpAll K Hb vs ds → ∀ Q : St → Hp → Prop,
    (∀ δ' w' σ', P δ' → SD K w' Hb H σ' δ' → Fm w Hb H w' Hb H → Q σ' H) → g vs σ H Q
/-- statements -/
def T (K : PySem.W.Frag) (E : WX) (ts : TS) (δ : Dl) (N : Dl → Prop) (R : PX) (X : XX) : Prop :=
  ∀ (w : Ow) (σ : St) (Hb H : Hp) (D : Ends), SD K w Hb H σ δ →
    (∀ δ' w' σ' Hb' H', N δ' → SD K w' Hb' H' σ' δ' → Fm w Hb H w' Hb' H' → D.nx σ' H') →
    (∀ x δ' v w' σ' Hb' H', R x δ' → SD K w' Hb' H' σ' δ' → Rv K Hb' v x → Fm w Hb H w' Hb' H' → D.rt v H') →
    (∀ σ', XC K E X w σ' Hb H) → ts D σ H

section
variable {K : PySem.W.Frag} {E : WX} {δ : Dl} {P : PX} {X : XX} {ta tb te tc : TE} {N : Dl → Prop} {R : PX}

/-! ### names, constants -/
theorem w_var {i : Nat} {x : Da} (h : δ[i]? = some (some (.d x))) (k : P (.d x) δ) : W K E (tVar i) δ P X := fun w σ Hb H s Q q _ => by
  obtain ⟨v, h1, h2⟩ := s.val i _ h
  exact ⟨v, h1, q _ _ v w Hb H k s h2 (Fm.refl _ _ _)⟩
theorem w_own {i : Nat} {p : Addr} {A : OwnA} (h : δ[i]? = some (some (.o p A))) (k : P (.a p) δ) : W K E (tVar i) δ P X := fun w σ Hb H s Q q _ => by
  obtain ⟨v, h1, h2, _⟩ := s.val i _ h
  exact ⟨v, h1, q _ _ v w Hb H k s h2 (Fm.refl _ _ _)⟩
theorem w_int {i : Int} (k : P (.d (.int i)) δ) : W K E (tC (.int i)) δ P X := fun w σ Hb H s Q q _ => q _ _ _ w Hb H k s (.int i) (Fm.refl _ _ _)
theorem w_bl {b : Bool} (k : P (.d (.bl b)) δ) : W K E (tC (.bl b)) δ P X := fun w σ Hb H s Q q _ => q _ _ _ w Hb H k s (.bl b) (Fm.refl _ _ _)
theorem w_non (k : P (.d .non) δ) : W K E (tC .non) δ P X := fun w σ Hb H s Q q _ => q _ _ _ w Hb H k s .non (Fm.refl _ _ _)
theorem w_str {z : Str} (l : List Nat) (e : z = S l) (k : P (.d (.str l)) δ) : W K E (tC (.str z)) δ P X := fun w σ Hb H s Q q _ => by
  subst e
  exact q _ _ _ w Hb H k s (.str l) (Fm.refl _ _ _)
/-- any constant that is data at every heap -/
theorem w_con {v : V} {d : Da} (h : ∀ H, Rp K H v d) (k : P (.d d) δ) : W K E (tC v) δ P X := fun w σ Hb H s Q q _ => q _ _ _ w Hb H k s (h Hb) (Fm.refl _ _ _)
theorem w_ref {p : Addr} (k : P (.a p) δ) : W K E (tC (.ref p)) δ P X := fun w σ Hb H s Q q _ => q _ _ _ w Hb H k s rfl (Fm.refl _ _ _)
theorem w_ty {n : String} (k : P (.t n) δ) : W K E (tC (.ty n)) δ P X := fun w σ Hb H s Q q _ => q _ _ _ w Hb H k s rfl (Fm.refl _ _ _)
theorem W.imp {P' : PX} (h : W K E te δ P X) (i : ∀ x δ', P x δ' → P' x δ') : W K E te δ P' X := fun w σ Hb H s Q q e => h w σ Hb H s Q (fun x δ' v w' Hb' H' p => q x δ' v w' Hb' H' (i x δ' p)) e

/-! ### two values -/
def RD (K : PySem.W.Frag) (E : WX) (r : R2) (x y : Vx) (δ : Dl) (P : PX) (X : XX) : Prop :=
  ∀ (w : Ow) (σ : St) (Hb H : Hp) (v u : V), SD K w Hb H σ δ → Rv K Hb v x → Rv K Hb u y → ∀ Q : VK,
    (∀ x δ' v w' Hb' H', P x δ' → SD K w' Hb' H' σ δ' → Rv K Hb' v x → Fm w Hb H w' Hb' H' → Q v H') → XC K E X w σ Hb H → r v u H Q
theorem w_op {r : R2} (h : W K E ta δ (fun x δ1 => W K E tb δ1 (fun y δ2 => RD K E r x y δ2 P X) X) X) : W K E (tOp r ta tb) δ P X := fun w σ Hb H s Q q e => by
  refine h w σ Hb H s _ (fun x δ1 v w1 Hb1 H1 k1 s1 r1 f1 => ?_) e
  refine k1 w1 σ Hb1 H1 s1 _ (fun y δ2 u w2 Hb2 H2 k2 s2 r2 f2 => ?_) (e.on f1)
  exact k2 w2 σ Hb2 H2 v u s2 (r1.mono f2.b) r2 Q (fun z δ3 t w3 Hb3 H3 k3 s3 r3 f3 => q z δ3 t w3 Hb3 H3 k3 s3 r3 ((f1.trans f2).trans f3)) (e.on (f1.trans f2))
theorem rd_I0i {g : Int → Int → Int} {i j : Int} (k : P (.d (.int (g i j))) δ) : RD K E (rI0 fun i j => .int (g i j)) (.d (.int i)) (.d (.int j)) δ P X := fun w σ Hb H v u s r1 r2 Q q _ => by
  cases r1
  cases r2
  exact ⟨i, j, rfl, rfl, q _ _ _ w Hb H k s (.int _) (Fm.refl _ _ _)⟩
theorem rd_I0b {g : Int → Int → Bool} {i j : Int} (k : P (.d (.bl (g i j))) δ) : RD K E (rI0 fun i j => .bl (g i j)) (.d (.int i)) (.d (.int j)) δ P X := fun w σ Hb H v u s r1 r2 Q q _ => by
  cases r1
  cases r2
  exact ⟨i, j, rfl, rfl, q _ _ _ w Hb H k s (.bl _) (Fm.refl _ _ _)⟩
theorem rd_Ii {C : Int → Int → Prop} {g : Int → Int → Int} {i j : Int} (hc : C i j) (k : P (.d (.int (g i j))) δ) : RD K E (rI C fun i j => .int (g i j)) (.d (.int i)) (.d (.int j)) δ P X := fun w σ Hb H v u s r1 r2 Q q _ => by
  cases r1
  cases r2
  exact ⟨i, j, rfl, rfl, hc, q _ _ _ w Hb H k s (.int _) (Fm.refl _ _ _)⟩
theorem rd_eqI {i j : Int} (k : P (.d (.bl (decide (i = j)))) δ) : RD K E rEq (.d (.int i)) (.d (.int j)) δ P X := fun w σ Hb H v u s r1 r2 Q q _ => by
  cases r1
  cases r2
  refine ⟨rfl, ?_⟩
  have e : decide (V.int i = V.int j) = decide (i = j) := by simp
  rw [e]
  exact q _ _ _ w Hb H k s (.bl _) (Fm.refl _ _ _)
theorem rd_neI {i j : Int} (k : P (.d (.bl (!decide (i = j)))) δ) : RD K E rNe (.d (.int i)) (.d (.int j)) δ P X := fun w σ Hb H v u s r1 r2 Q q _ => by
  cases r1
  cases r2
  refine ⟨rfl, ?_⟩
  have e : decide (V.int i = V.int j) = decide (i = j) := by simp
  rw [e]
  exact q _ _ _ w Hb H k s (.bl _) (Fm.refl _ _ _)
theorem decS (a b : List Nat) : decide (V.str (S a) = V.str (S b)) = decide (a = b) := by
  by_cases h : a = b
  · subst h; simp
  · have : ¬ V.str (S a) = V.str (S b) := fun e => h (S_inj (V.str.inj e))
    rw [decide_eq_false h, decide_eq_false this]
theorem rd_eqS {a b : List Nat} (k : P (.d (.bl (decide (a = b)))) δ) : RD K E rEq (.d (.str a)) (.d (.str b)) δ P X := fun w σ Hb H v u s r1 r2 Q q _ => by
  cases r1
  cases r2
  refine ⟨rfl, ?_⟩
  rw [decS]
  exact q _ _ _ w Hb H k s (.bl _) (Fm.refl _ _ _)
theorem rd_neS {a b : List Nat} (k : P (.d (.bl (!decide (a = b)))) δ) : RD K E rNe (.d (.str a)) (.d (.str b)) δ P X := fun w σ Hb H v u s r1 r2 Q q _ => by
  cases r1
  cases r2
  refine ⟨rfl, ?_⟩
  rw [decS]
  exact q _ _ _ w Hb H k s (.bl _) (Fm.refl _ _ _)
/-- the result is data, the heap as it is -/
theorem rd_pure {r : R2} {x y : Da} {z : Da} (hr : ∀ (Hb H : Hp) (v u : V), Same Hb H → Rp K Hb v x → Rp K Hb u y → ∀ Q : VK, (∀ t, Rp K Hb t z → Q t H) → r v u H Q) (k : P (.d z) δ) : RD K E r (.d x) (.d y) δ P X :=
  fun w σ Hb H v u s r1 r2 Q q _ => hr Hb H v u s.sub r1 r2 Q fun t ht => q _ _ t w Hb H k s ht (Fm.refl _ _ _)
/-! ### one value -/
theorem w_neg (h : W K E ta δ (fun x δ1 => ∃ i, x = .d (.int i) ∧ P (.d (.int (-i))) δ1) X) : W K E (tUn (rU fun i => .int (-i)) ta) δ P X := fun w σ Hb H s Q q e => by
  refine h w σ Hb H s _ (fun x δ1 v w1 Hb1 H1 ⟨i, ei, k⟩ s1 r1 f1 => ?_) e
  subst ei
  cases r1
  exact ⟨i, rfl, q _ _ _ w1 Hb1 H1 k s1 (.int _) f1⟩

/-! ### tests -/
variable {t u : TT} {PT' : Bool → Dl → Prop}
theorem wt_test (h : W K E te δ (fun x δ1 => ∃ b, x = .d (.bl b) ∧ PT' b δ1) X) : WT K E (tTest te) δ PT' X := fun w σ Hb H s Q q e => by
  refine h w σ Hb H s _ (fun x δ1 v w1 Hb1 H1 ⟨b, eb, k⟩ s1 r1 f1 => ?_) e
  subst eb
  cases r1
  exact ⟨b, rfl, q _ _ w1 Hb1 H1 k s1 f1⟩
theorem wt_B (h : W K E te δ (fun x δ1 => ∃ b, x = .d (.bl b) ∧ PT' b δ1) X) : WT K E (tB te) δ PT' X := fun w σ Hb H s Q q e => by
  refine h w σ Hb H s _ (fun x δ1 v w1 Hb1 H1 ⟨b, eb, k⟩ s1 r1 f1 => ?_) e
  subst eb
  cases r1
  exact ⟨b, rfl, q _ _ w1 Hb1 H1 k s1 f1⟩
theorem wt_and (h : WT K E t δ (fun b δ1 => (b = true → WT K E u δ1 PT' X) ∧ (b = false → PT' false δ1)) X) : WT K E (tAnd t u) δ PT' X := fun w σ Hb H s Q q e => by
  refine h w σ Hb H s _ (fun b δ1 w1 Hb1 H1 k s1 f1 => ?_) e
  cases b with
  | true => exact k.1 rfl w1 σ Hb1 H1 s1 Q (fun b δ' w' Hb' H' p s' f' => q b δ' w' Hb' H' p s' (f1.trans f')) (e.on f1)
  | false => exact q false δ1 w1 Hb1 H1 (k.2 rfl) s1 f1
theorem wt_or (h : WT K E t δ (fun b δ1 => (b = true → PT' true δ1) ∧ (b = false → WT K E u δ1 PT' X)) X) : WT K E (tOr t u) δ PT' X := fun w σ Hb H s Q q e => by
  refine h w σ Hb H s _ (fun b δ1 w1 Hb1 H1 k s1 f1 => ?_) e
  cases b with
  | true => exact q true δ1 w1 Hb1 H1 (k.1 rfl) s1 f1
  | false => exact k.2 rfl w1 σ Hb1 H1 s1 Q (fun b δ' w' Hb' H' p s' f' => q b δ' w' Hb' H' p s' (f1.trans f')) (e.on f1)
theorem wt_not (h : WT K E t δ (fun b δ1 => PT' (!b) δ1) X) : WT K E (tNot t) δ PT' X := fun w σ Hb H s Q q e => h w σ Hb H s _ (fun b δ1 w1 Hb1 H1 k s1 f1 => q _ δ1 w1 Hb1 H1 k s1 f1) e
/-- and, or, not as values; a if t else b -/
theorem w_andV (h : W K E ta δ (fun x δ1 => ∃ b, x = .d (.bl b) ∧ (b = true → W K E tb δ1 P X) ∧ (b = false → P (.d (.bl false)) δ1)) X) : W K E (tAndV ta tb) δ P X := fun w σ Hb H s Q q e => by
  refine h w σ Hb H s _ (fun x δ1 v w1 Hb1 H1 ⟨b, eb, k⟩ s1 r1 f1 => ?_) e
  subst eb
  cases r1
  refine ⟨b, rfl, ?_⟩
  cases b with
  | true => exact k.1 rfl w1 σ Hb1 H1 s1 Q (fun x δ' v w' Hb' H' p s' r' f' => q x δ' v w' Hb' H' p s' r' (f1.trans f')) (e.on f1)
  | false => exact q _ δ1 _ w1 Hb1 H1 (k.2 rfl) s1 (.bl false) f1
theorem w_orV (h : W K E ta δ (fun x δ1 => ∃ b, x = .d (.bl b) ∧ (b = true → P (.d (.bl true)) δ1) ∧ (b = false → W K E tb δ1 P X)) X) : W K E (tOrV ta tb) δ P X := fun w σ Hb H s Q q e => by
  refine h w σ Hb H s _ (fun x δ1 v w1 Hb1 H1 ⟨b, eb, k⟩ s1 r1 f1 => ?_) e
  subst eb
  cases r1
  refine ⟨b, rfl, ?_⟩
  cases b with
  | true => exact q _ δ1 _ w1 Hb1 H1 (k.1 rfl) s1 (.bl true) f1
  | false => exact k.2 rfl w1 σ Hb1 H1 s1 Q (fun x δ' v w' Hb' H' p s' r' f' => q x δ' v w' Hb' H' p s' r' (f1.trans f')) (e.on f1)
theorem w_notV (h : W K E ta δ (fun x δ1 => ∃ b, x = .d (.bl b) ∧ P (.d (.bl (!b))) δ1) X) : W K E (tNotV ta) δ P X := fun w σ Hb H s Q q e => by
  refine h w σ Hb H s _ (fun x δ1 v w1 Hb1 H1 ⟨b, eb, k⟩ s1 r1 f1 => ?_) e
  subst eb
  cases r1
  exact ⟨b, rfl, q _ δ1 _ w1 Hb1 H1 k s1 (.bl _) f1⟩
theorem w_if (h : WT K E t δ (fun b δ1 => (b = true → W K E ta δ1 P X) ∧ (b = false → W K E tb δ1 P X)) X) : W K E (tIf t ta tb) δ P X := fun w σ Hb H s Q q e => by
  refine h w σ Hb H s _ (fun b δ1 w1 Hb1 H1 k s1 f1 => ?_) e
  cases b with
  | true => exact k.1 rfl w1 σ Hb1 H1 s1 Q (fun x δ' v w' Hb' H' p s' r' f' => q x δ' v w' Hb' H' p s' r' (f1.trans f')) (e.on f1)
  | false => exact k.2 rfl w1 σ Hb1 H1 s1 Q (fun x δ' v w' Hb' H' p s' r' f' => q x δ' v w' Hb' H' p s' r' (f1.trans f')) (e.on f1)

/-! ### arguments, displays -/
theorem wa_nil {PA' : List Vx → Dl → Prop} (k : PA' [] δ) : WA K E tNil δ PA' X := fun w σ Hb H s Q q _ => q [] δ [] w Hb H k s .nil (Fm.refl _ _ _)
theorem wa_cons {PA' : List Vx → Dl → Prop} {tr : TA} (h : W K E te δ (fun x δ1 => WA K E tr δ1 (fun xs δ2 => PA' (x :: xs) δ2) X) X) : WA K E (tCons te tr) δ PA' X := fun w σ Hb H s Q q e => by
  refine h w σ Hb H s _ (fun x δ1 v w1 Hb1 H1 k1 s1 r1 f1 => ?_) e
  refine k1 w1 σ Hb1 H1 s1 _ (fun xs δ2 vs w2 Hb2 H2 k2 s2 r2 f2 => ?_) (e.on f1)
  exact q _ δ2 _ w2 Hb2 H2 k2 s2 (.cons (r1.mono f2.b) r2) (f1.trans f2)
theorem wd_nil {PD : List Da → Dl → Prop} (k : PD [] δ) : WD K E tNil δ PD X := fun w σ Hb H s Q q _ => q [] δ [] w Hb H k s .nil (Fm.refl _ _ _)
theorem wd_cons {PD : List Da → Dl → Prop} {tr : TA} (h : W K E te δ (fun x δ1 => ∃ d, x = .d d ∧ WD K E tr δ1 (fun ds δ2 => PD (d :: ds) δ2) X) X) : WD K E (tCons te tr) δ PD X := fun w σ Hb H s Q q e => by
  refine h w σ Hb H s _ (fun x δ1 v w1 Hb1 H1 ⟨d, ed, k1⟩ s1 r1 f1 => ?_) e
  subst ed
  refine k1 w1 σ Hb1 H1 s1 _ (fun xs δ2 vs w2 Hb2 H2 k2 s2 r2 f2 => ?_) (e.on f1)
  exact q _ δ2 _ w2 Hb2 H2 k2 s2 (.cons (Rp.mono f2.b r1) r2) (f1.trans f2)
theorem sz {n : Nat} (h : n ≤ 16000000) : n ≤ sizeLine := Nat.le_trans h (by decide)
theorem szl {n : Nat} (h : n < 16000001) : n < sizeLine := Nat.lt_of_lt_of_le h (by decide)
theorem w_tup {ta : TA} (h : WD K E ta δ (fun ds δ1 => ds.length ≤ 16000000 ∧ P (.d (.tup ds)) δ1) X) : W K E (tTup ta) δ P X := fun w σ Hb H s Q q e => by
  refine h w σ Hb H s _ (fun ds δ1 vs w1 Hb1 H1 ⟨hl, k⟩ s1 r1 f1 => ⟨sz (by rw [r1.length]; exact hl), fun p hp => ?_⟩) e
  obtain ⟨s2, f2⟩ := s1.new (o := .tup vs) hp
  exact q _ δ1 _ w1 _ _ k s2 (.tup (.inl (.inl upd_same)) (r1.mono f2.b)) (f1.trans f2)
theorem w_lst {ta : TA} (h : WD K E ta δ (fun ds δ1 => ds.length ≤ 16000000 ∧ P (.d (.lst ds)) δ1) X) : W K E (tLst ta) δ P X := fun w σ Hb H s Q q e => by
  refine h w σ Hb H s _ (fun ds δ1 vs w1 Hb1 H1 ⟨hl, k⟩ s1 r1 f1 => ⟨sz (by rw [r1.length]; exact hl), fun p hp => ?_⟩) e
  obtain ⟨s2, f2⟩ := s1.new (o := .lst vs) hp
  exact q _ δ1 _ w1 _ _ k s2 (.lst upd_same (r1.mono f2.b)) (f1.trans f2)
/-- a built-in called -/
def CD (K : PySem.W.Frag) (E : WX) (r : List V → Hp → VK → Prop) (xs : List Vx) (δ : Dl) (P : PX) (X : XX) : Prop :=
  ∀ (w : Ow) (σ : St) (Hb H : Hp) (vs : List V), SD K w Hb H σ δ → Paired (Rv K Hb) vs xs → ∀ Q : VK,
    (∀ x δ' v w' Hb' H', P x δ' → SD K w' Hb' H' σ δ' → Rv K Hb' v x → Fm w Hb H w' Hb' H' → Q v H') → XC K E X w σ Hb H → r vs H Q
theorem w_cb {r : List V → Hp → VK → Prop} {ta : TA} (h : WA K E ta δ (fun xs δ1 => CD K E r xs δ1 P X) X) : W K E (tCB r ta) δ P X := fun w σ Hb H s Q q e => by
  refine h w σ Hb H s _ (fun xs δ1 vs w1 Hb1 H1 k s1 r1 f1 => ?_) e
  exact k w1 σ Hb1 H1 vs s1 r1 Q (fun z δ3 t w3 Hb3 H3 k3 s3 r3 f3 => q z δ3 t w3 Hb3 H3 k3 s3 r3 (f1.trans f3)) (e.on f1)

/-! ### statements -/
theorem T.imp {ts : TS} {N' : Dl → Prop} {R' : PX} (h : T K E ts δ N R X) (i : ∀ δ, N δ → N' δ) (j : ∀ x δ, R x δ → R' x δ) : T K E ts δ N' R' X := fun w σ Hb H D s n r e =>
  h w σ Hb H D s (fun δ' w' σ' Hb' H' p => n δ' w' σ' Hb' H' (i _ p)) (fun x δ' v w' σ' Hb' H' p => r x δ' v w' σ' Hb' H' (j _ _ p)) e
theorem t_next (k : N δ) : T K E tNext δ N R X := fun w σ Hb H D s n _ _ => n δ w σ Hb H k s (Fm.refl _ _ _)
theorem t_seq {t1 t2 : TS} (h : T K E t1 δ (fun δ1 => T K E t2 δ1 N R X) R X) : T K E (tSeq t1 t2) δ N R X := fun w σ Hb H D s n r e => by
  refine h w σ Hb H { D with nx := t2 D } s (fun δ1 w1 σ1 Hb1 H1 k s1 f1 => ?_) (fun x δ' v w' σ' Hb' H' => r x δ' v w' σ' Hb' H') e
  exact k w1 σ1 Hb1 H1 D s1 (fun δ2 w2 σ2 Hb2 H2 k2 s2 f2 => n δ2 w2 σ2 Hb2 H2 k2 s2 (f1.trans f2)) (fun x δ2 v w2 σ2 Hb2 H2 k2 s2 r2 f2 => r x δ2 v w2 σ2 Hb2 H2 k2 s2 r2 (f1.trans f2)) fun σ' => (e σ').on f1
theorem t_drop (h : W K E te δ (fun _ δ1 => N δ1) X) : T K E (tDrop te) δ N R X := fun w σ Hb H D s n r e => h w σ Hb H s _ (fun x δ1 v w1 Hb1 H1 k s1 r1 f1 => n δ1 w1 σ Hb1 H1 k s1 f1) (e σ)
theorem t_ret (h : W K E te δ R X) : T K E (tRet te) δ N R X := fun w σ Hb H D s n r e => h w σ Hb H s _ (fun x δ1 v w1 Hb1 H1 k s1 r1 f1 => r x δ1 v w1 σ Hb1 H1 k s1 r1 f1) (e σ)
theorem t_retN (k : R (.d .non) δ) : T K E tRetN δ N R X := fun w σ Hb H D s n r e => r _ δ _ w σ Hb H k s .non (Fm.refl _ _ _)
theorem t_if {t1 t2 : TS} (h : WT K E t δ (fun b δ1 => (b = true → T K E t1 δ1 N R X) ∧ (b = false → T K E t2 δ1 N R X)) X) : T K E (tIfS t t1 t2) δ N R X := fun w σ Hb H D s n r e => by
  refine h w σ Hb H s _ (fun b δ1 w1 Hb1 H1 k s1 f1 => ?_) (e σ)
  cases b with
  | true => exact k.1 rfl w1 σ Hb1 H1 D s1 (fun δ2 w2 σ2 Hb2 H2 k2 s2 f2 => n δ2 w2 σ2 Hb2 H2 k2 s2 (f1.trans f2)) (fun x δ2 v w2 σ2 Hb2 H2 k2 s2 r2 f2 => r x δ2 v w2 σ2 Hb2 H2 k2 s2 r2 (f1.trans f2)) fun σ' => (e σ').on f1
  | false => exact k.2 rfl w1 σ Hb1 H1 D s1 (fun δ2 w2 σ2 Hb2 H2 k2 s2 f2 => n δ2 w2 σ2 Hb2 H2 k2 s2 (f1.trans f2)) (fun x δ2 v w2 σ2 Hb2 H2 k2 s2 r2 f2 => r x δ2 v w2 σ2 Hb2 H2 k2 s2 r2 (f1.trans f2)) fun σ' => (e σ').on f1
/-! targets -/
theorem g_name {i : Nat} {d : Da} {PG : Dl → Prop} (k : PG (δ.set i (some (.d d)))) : G K (gName i) d δ PG := fun w σ Hb H v s r Q q => q _ _ _ k (s.set r) (Fm.refl _ _ _)
theorem gs_nil {PG : Dl → Prop} (k : PG δ) : GS K gNil [] δ PG := fun w σ Hb H vs s r Q q => by
  cases r
  exact ⟨rfl, q δ w σ k s (Fm.refl _ _ _)⟩
theorem gs_cons {g : TG} {gs : TGs} {d : Da} {ds : List Da} {PG : Dl → Prop} (h : G K g d δ (fun δ1 => GS K gs ds δ1 PG)) : GS K (gCons g gs) (d :: ds) δ PG := fun w σ Hb H vs s r Q q => by
  cases r with
  | cons r1 r2 =>
    refine ⟨_, _, rfl, h w σ Hb H _ s r1 _ fun δ1 w1 σ1 k1 s1 f1 => ?_⟩
    exact k1 w1 σ1 Hb H _ s1 r2 Q fun δ2 w2 σ2 k2 s2 f2 => q δ2 w2 σ2 k2 s2 (f1.trans f2)
theorem g_tup {n : Nat} {gs : TGs} {ds : List Da} {PG : Dl → Prop} (hn : ds.length = n) (h : GS K gs ds δ PG) : G K (gTup K n gs) (.tup ds) δ PG := fun w σ Hb H v s r Q q => by
  cases r with
  | tup hs ha => exact ⟨_, _, rfl, same_t s.sub hs, by rw [ha.length]; exact hn, h w σ Hb H _ s ha Q q⟩
theorem t_asg {g : TG} (h : W K E te δ (fun x δ1 => ∃ d, x = .d d ∧ G K g d δ1 N) X) : T K E (tAsg te g) δ N R X := fun w σ Hb H D s n r e => by
  refine h w σ Hb H s _ (fun x δ1 v w1 Hb1 H1 ⟨d, ed, k⟩ s1 r1 f1 => ?_) (e σ)
  subst ed
  exact k w1 σ Hb1 H1 v s1 r1 _ fun δ2 w2 σ2 k2 s2 f2 => n δ2 w2 σ2 Hb1 H1 k2 s2 (f1.trans f2)
theorem t_set {i : Nat} (h : W K E te δ (fun x δ1 => ∃ d, x = .d d ∧ N (δ1.set i (some (.d d)))) X) : T K E (tAsg te (gName i)) δ N R X := t_asg (h.imp fun x δ' ⟨d, e, k⟩ => ⟨d, e, g_name k⟩)
/-! loops -/
theorem t_while {t : TT} {tb : TS} (I : Nat → Dl → Prop) (m0 : Nat) (h0 : I m0 δ)
    (hs : ∀ m δ1, I m δ1 → WT K E t δ1 (fun b δ2 => (b = true → T K E tb δ2 (fun δ3 => ∃ m', m' < m ∧ I m' δ3) R X) ∧ (b = false → N δ2)) X) : T K E (tWhile t tb) δ N R X := fun w σ Hb H D s n r e => by
  refine ⟨fun m σ' H' => ∃ δ1 w1 Hb1, I m δ1 ∧ SD K w1 Hb1 H' σ' δ1 ∧ Fm w Hb H w1 Hb1 H', ⟨m0, δ, w, Hb, h0, s, Fm.refl _ _ _⟩, ?_⟩
  rintro m σ1 H1 ⟨δ1, w1, Hb1, i1, s1, f1⟩
  refine hs m δ1 i1 w1 σ1 Hb1 H1 s1 _ (fun b δ2 w2 Hb2 H2 k s2 f2 => ?_) ((e σ1).on f1)
  cases b with
  | true =>
    refine ⟨fun σ' H' => ∃ δ3 w3 Hb3, (∃ m', m' < m ∧ I m' δ3) ∧ SD K w3 Hb3 H' σ' δ3 ∧ Fm w Hb H w3 Hb3 H', ?_, ?_⟩
    · rintro σ' H' ⟨δ3, w3, Hb3, ⟨m', hm, i3⟩, s3, f3⟩
      exact ⟨m', hm, δ3, w3, Hb3, i3, s3, f3⟩
    · refine k.1 rfl w2 σ1 Hb2 H2 _ s2 (fun δ3 w3 σ3 Hb3 H3 k3 s3 f3 => ?_) (fun x δ3 v w3 σ3 Hb3 H3 k3 s3 r3 f3 => ?_) fun σ' => (e σ').on (f1.trans f2)
      · exact ⟨δ3, w3, Hb3, k3, s3, (f1.trans f2).trans f3⟩
      · exact r x δ3 v w3 σ3 Hb3 H3 k3 s3 r3 ((f1.trans f2).trans f3)
  | false => exact n δ2 w2 σ1 Hb2 H2 (k.2 rfl) s2 (f1.trans f2)
/-- what a loop walks: ds, one after another, over anything above Hb -/
structure Yl (K : PySem.W.Frag) (J : It) (ds : List Da) (Hb : Hp) : Prop where
  go : ∀ i H, Same Hb H → i < ds.length → J.go i H
  yld : ∀ i H x H', Same Hb H → J.yld i H x H' → i < ds.length → H' = H ∧ ∃ d, ds[i]? = some d ∧ Rp K Hb x d
  stop : ∀ H, Same Hb H → J.stop ds.length H
def WI (K : PySem.W.Frag) (E : WX) (wi : TI) (δ : Dl) (P : List Da → Dl → Prop) (X : XX) : Prop :=
  ∀ (w : Ow) (σ : St) (Hb H : Hp), SD K w Hb H σ δ → ∀ Q : It → Hp → Prop,
    (∀ ds δ' J w' Hb' H', P ds δ' → SD K w' Hb' H' σ δ' → Yl K J ds Hb' → Fm w Hb H w' Hb' H' → Q J H') → XC K E X w σ Hb H → wi σ H Q
variable {PI' : List Da → Dl → Prop}
theorem wi_list (h : W K E te δ (fun x δ1 => ∃ ds, x = .d (.lst ds) ∧ PI' ds δ1) X) : WI K E (iList K te) δ PI' X := fun w σ Hb H s Q q e => by
  refine h w σ Hb H s _ (fun x δ1 v w1 Hb1 H1 ⟨ds, ed, k⟩ s1 r1 f1 => ?_) e
  subst ed
  cases r1 with
  | @lst a xs _ hs ha =>
    have hl := ha.length
    refine ⟨a, rfl, ⟨xs, (SqL.of (s1.sub _ _ hs))⟩, q ds δ1 _ w1 Hb1 H1 k s1 ⟨fun i H' e1 hi => ?_, fun i H' x H'' e1 ⟨y1, y2⟩ hi => ⟨y1, ?_⟩, fun H' e1 => ⟨xs, (SqL.of (e1 _ _ hs)), by omega⟩⟩ f1⟩
    · have : i < xs.length := by omega
      exact ⟨xs, xs[i], (SqL.of (e1 _ _ hs)), List.getElem?_eq_getElem this⟩
    · exact ha.getV (y2 xs ((SqL.of (e1 _ _ hs))))
theorem wi_tup (h : W K E te δ (fun x δ1 => ∃ ds, x = .d (.tup ds) ∧ PI' ds δ1) X) : WI K E (iTup K te) δ PI' X := fun w σ Hb H s Q q e => by
  refine h w σ Hb H s _ (fun x δ1 v w1 Hb1 H1 ⟨ds, ed, k⟩ s1 r1 f1 => ?_) e
  subst ed
  cases r1 with
  | @tup a xs _ hs ha =>
    have hl := ha.length
    refine ⟨a, rfl, ⟨xs, same_t s1.sub hs⟩, q ds δ1 _ w1 Hb1 H1 k s1 ⟨fun i H' e1 hi => ?_, fun i H' x H'' e1 ⟨y1, y2⟩ hi => ⟨y1, ?_⟩, fun H' e1 => ⟨xs, same_t e1 hs, by omega⟩⟩ f1⟩
    · have : i < xs.length := by omega
      exact ⟨xs, xs[i], same_t e1 hs, List.getElem?_eq_getElem this⟩
    · exact ha.getV (y2 xs (same_t e1 hs))
/-- lo, lo + 1, .. n of them -/
def ran (lo : Int) (n : Nat) : List Da := (List.range n).map fun (k : Nat) => Da.int (lo + (k : Int))
theorem ran_len (lo : Int) (n : Nat) : (ran lo n).length = n := by simp [ran]
theorem ran_get {lo : Int} {n i : Nat} (h : i < n) : (ran lo n)[i]? = some (.int (lo + (i : Int))) := by simp [ran, h]
theorem yl_ran (lo : Int) (n : Nat) (Hb : Hp) : Yl K (Itr lo n) (ran lo n) Hb where
  go := fun i H _ hi => by rw [ran_len] at hi; exact hi
  yld := fun i H x H' _ y hi => by
    obtain ⟨y1, y2⟩ := y
    rw [ran_len] at hi
    refine ⟨y1, _, ran_get hi, ?_⟩
    rw [y2]
    exact .int _
  stop := fun H _ => by rw [ran_len]; exact Nat.le_refl _
theorem wi_rng1 {ta : TA} (h : WD K E ta δ (fun ds δ1 => ∃ j : Int, ds = [.int j] ∧ -1000000 ≤ j ∧ j ≤ 1000000 ∧ PI' (ran 0 j.toNat) δ1) X) : WI K E (iRng1 ta) δ PI' X := fun w σ Hb H s Q q e => by
  refine h w σ Hb H s _ (fun ds δ1 vs w1 Hb1 H1 ⟨j, ed, h1, h2, k⟩ s1 r1 f1 => ?_) e
  subst ed
  have ev := RpAll.ints (ns := [j]) r1
  subst ev
  exact ⟨j, rfl, by omega, by omega, q _ δ1 _ w1 Hb1 H1 k s1 (yl_ran _ _ _) f1⟩
theorem wi_rng2 {ta : TA} (h : WD K E ta δ (fun ds δ1 => ∃ i j : Int, ds = [.int i, .int j] ∧ (-1000000 ≤ i ∧ i ≤ 1000000 ∧ -1000000 ≤ j ∧ j ≤ 1000000) ∧ PI' (ran i (j - i).toNat) δ1) X) : WI K E (iRng2 ta) δ PI' X := fun w σ Hb H s Q q e => by
  refine h w σ Hb H s _ (fun ds δ1 vs w1 Hb1 H1 ⟨i, j, ed, h1, k⟩ s1 r1 f1 => ?_) e
  subst ed
  have ev := RpAll.ints (ns := [i, j]) r1
  subst ev
  exact ⟨i, j, rfl, by omega, q _ δ1 _ w1 Hb1 H1 k s1 (yl_ran _ _ _) f1⟩
theorem wi_str (h : W K E te δ (fun x δ1 => ∃ l, x = .d (.str l) ∧ PI' (l.map fun c => Da.str [c]) δ1) X) : WI K E (iStr te) δ PI' X := fun w σ Hb H s Q q e => by
  refine h w σ Hb H s _ (fun x δ1 v w1 Hb1 H1 ⟨l, ed, k⟩ s1 r1 f1 => ?_) e
  subst ed
  cases r1
  have sz : (S l).cps.size = l.length := by simp [S]
  refine ⟨S l, rfl, q _ δ1 _ w1 Hb1 H1 k s1 ⟨fun i H' _ hi => ?_, fun i H' x H'' _ ⟨y1, c, y2, y3⟩ hi => ⟨y1, .str [c], ?_, ?_⟩, fun H' _ => ?_⟩ f1⟩
  · rw [List.length_map] at hi
    show i < (S l).cps.size
    omega
  · have : l[i]? = some c := by simpa [S] using y2
    rw [List.getElem?_map, this]
    rfl
  · rw [y3]
    exact .str [c]
  · rw [List.length_map]
    show (S l).cps.size ≤ l.length
    omega
theorem t_for {wi : TI} {g : TG} {tb : TS} (h : WI K E wi δ (fun ds δ1 => ∃ I : Nat → Dl → Prop, I 0 δ1 ∧ (∀ i d δ2, ds[i]? = some d → I i δ2 → G K g d δ2 (fun δ3 => T K E tb δ3 (I (i + 1)) R X)) ∧ ∀ δ2, I ds.length δ2 → N δ2) X) :
    T K E (tFor wi g tb) δ N R X := fun w σ Hb H D s n r e => by
  refine h w σ Hb H s _ (fun ds δ1 J w1 Hb1 H1 ⟨I, i0, hs, hd⟩ s1 yl f1 => ?_) (e σ)
  refine ⟨fun i m σ' H' => m = ds.length - i ∧ i ≤ ds.length ∧ ∃ δ2 w2 Hb2, I i δ2 ∧ SD K w2 Hb2 H' σ' δ2 ∧ Fm w1 Hb1 H1 w2 Hb2 H', ⟨ds.length, by simp, Nat.zero_le _, δ1, w1, Hb1, i0, s1, Fm.refl _ _ _⟩, ?_⟩
  rintro i m σ2 H2 ⟨rfl, hi, δ2, w2, Hb2, i2, s2, f2⟩
  have e2 : Same Hb1 H2 := f2.b.trans s2.sub
  by_cases hlt : i < ds.length
  · refine .inr ⟨yl.go i H2 e2 hlt, fun σ' H' => ∃ δ3 w3 Hb3, I (i + 1) δ3 ∧ SD K w3 Hb3 H' σ' δ3 ∧ Fm w1 Hb1 H1 w3 Hb3 H', ?_, ?_⟩
    · rintro σ' H' ⟨δ3, w3, Hb3, i3, s3, f3⟩
      exact ⟨ds.length - (i + 1), by omega, rfl, hlt, δ3, w3, Hb3, i3, s3, f3⟩
    · intro x H' y
      obtain ⟨eH, d, hd', rd⟩ := yl.yld i H2 x H' e2 y hlt
      subst eH
      refine hs i d δ2 hd' i2 w2 σ2 Hb2 _ x s2 (Rp.mono f2.b rd) _ fun δ3 w3 σ3 k3 s3 f3 => ?_
      refine k3 w3 σ3 Hb2 _ _ s3 (fun δ4 w4 σ4 Hb4 H4 k4 s4 f4 => ?_) (fun x δ4 v w4 σ4 Hb4 H4 k4 s4 r4 f4 => ?_) fun σ' => (e σ').on ((f1.trans f2).trans f3)
      · exact ⟨δ4, w4, Hb4, k4, s4, (f2.trans f3).trans f4⟩
      · exact r x δ4 v w4 σ4 Hb4 H4 k4 s4 r4 (((f1.trans f2).trans f3).trans f4)
  · have ei : i = ds.length := by omega
    subst ei
    exact .inl ⟨yl.stop H2 e2, n δ2 w2 σ2 Hb2 H2 (hd δ2 i2) s2 (f1.trans f2)⟩
end
end Cr

namespace Cr
open PySem L2

/-! ### comprehensions -/
def NoneAt (δ : Dl) (vs : List Nat) : Prop := ∀ v ∈ vs, ∀ x, δ[v]? ≠ some (some x)
def wipeD (δ : Dl) : List Nat → Dl
  | [] => δ
  | v :: vs => (wipeD δ vs).set v none
theorem wipe_get (σ : St) (i : Nat) : ∀ vs : List Nat, (wipe σ vs)[i]? = if i ∈ vs then (σ[i]?).map (fun _ => none) else σ[i]?
  | [] => by simp [wipe]
  | v :: vs => by
    unfold wipe
    rw [List.getElem?_set, wipe_length]
    by_cases e : v = i
    · subst e
      simp only [if_pos, List.mem_cons, true_or]
      by_cases h : v < σ.length
      · simp [h]
      · simp [h]
    · rw [if_neg e, wipe_get σ i vs]
      have e' : ¬ i = v := fun z => e z.symm
      simp [e']
theorem wipe_idem (σ : St) (vs : List Nat) : wipe (wipe σ vs) vs = wipe σ vs := by
  refine List.ext_getElem? fun i => ?_
  rw [wipe_get, wipe_get]
  split
  · cases σ[i]? <;> rfl
  · rfl
theorem wipe_set (σ : St) {vs : List Nat} {j : Nat} (h : j ∈ vs) (x : Option V) : wipe (σ.set j x) vs = wipe σ vs := by
  refine List.ext_getElem? fun i => ?_
  rw [wipe_get, wipe_get]
  by_cases e : i ∈ vs
  · rw [if_pos e, if_pos e, List.getElem?_set]
    split
    · rename_i q
      subst q
      by_cases hl : j < σ.length
      · simp [hl]
      · simp [hl]
    · rfl
  · rw [if_neg e, if_neg e, List.getElem?_set_ne]
    intro q
    subst q
    exact e h
section
variable {K : PySem.W.Frag} {w : Ow} {Hb H : Hp} {σ : St} {δ : Dl}
theorem SD.forget2 (s : SD K w Hb H σ δ) (i : Nat) : SD K w Hb H (σ.set i none) (δ.set i none) := by
  have t := s.forget i
  refine ⟨t.sub, t.dis, t.dom, t.uniq, fun j y e => ?_, by simp [s.len]⟩
  obtain ⟨v, h1, h2⟩ := t.val j y e
  refine ⟨v, ?_, h2⟩
  rw [List.getElem?_set_ne]
  · exact h1
  · intro q
    subst q
    have hl : i < δ.length := by
      have := (List.getElem?_eq_some_iff.mp e).1
      simpa using this
    rw [List.getElem?_set_self hl] at e
    cases e
theorem SD.wipe (s : SD K w Hb H σ δ) : ∀ vs : List Nat, SD K w Hb H (L2.wipe σ vs) (wipeD δ vs)
  | [] => s
  | v :: vs => (SD.wipe s vs).forget2 v
theorem SD.unwipe {vs : List Nat} (s : SD K w Hb H (L2.wipe σ vs) δ) : SD K w Hb H σ δ :=
  ⟨s.sub, s.dis, s.dom, s.uniq, fun j y e => by
    obtain ⟨v, h1, h2⟩ := s.val j y e
    exact ⟨v, (wipe_some h1).1, h2⟩, by rw [s.len, wipe_length]⟩
theorem SD.enter {vs : List Nat} (s : SD K w Hb H σ δ) (n : NoneAt δ vs) : SD K w Hb H (L2.wipe σ vs) δ :=
  ⟨s.sub, s.dis, s.dom, s.uniq, fun j y e => by
    obtain ⟨v, h1, h2⟩ := s.val j y e
    refine ⟨v, ?_, h2⟩
    rw [wipe_get, if_neg (fun z => n j z y e)]
    exact h1, by rw [s.len, wipe_length]⟩
theorem wipeD_none (δ : Dl) : ∀ vs : List Nat, NoneAt (wipeD δ vs) vs
  | [], v, h, x, e => by cases h
  | u :: vs, v, h, x, e => by
    have e : ((wipeD δ vs).set u none)[v]? = some (some x) := e
    rw [List.getElem?_set] at e
    split at e
    · split at e
      · cases e
      · cases e
    · rename_i n
      rcases List.mem_cons.mp h with q | q
      · exact n q.symm
      · exact wipeD_none δ vs v q x e
end
/-- a target of a comprehension, its names among vs -/
def Gv (K : PySem.W.Frag) (g : TG) (vs : List Nat) (d : Da) (δ : Dl) (P : Dl → Prop) : Prop :=
  ∀ (w : Ow) (σ : St) (Hb H : Hp) (v : V), SD K w Hb H σ δ → Rp K Hb v d → ∀ Q : St → Hp → Prop,
    (∀ δ' w' σ', P δ' → SD K w' Hb H σ' δ' → Fm w Hb H w' Hb H → wipe σ' vs = wipe σ vs → Q σ' H) → g v σ H Q
def GSv (K : PySem.W.Frag) (g : TGs) (vs : List Nat) (ds : List Da) (δ : Dl) (P : Dl → Prop) : Prop :=
  ∀ (w : Ow) (σ : St) (Hb H : Hp) (us : List V), SD K w Hb H σ δ → RpAll K Hb us ds → ∀ Q : St → Hp → Prop,
    (∀ δ' w' σ', P δ' → SD K w' Hb H σ' δ' → Fm w Hb H w' Hb H → wipe σ' vs = wipe σ vs → Q σ' H) → g us σ H Q
abbrev Ef : WX := fun _ _ _ _ => False
section
variable {K : PySem.W.Frag} {E : WX} {δ : Dl} {P : PX} {X : XX} {ta tb te tc : TE} {N : Dl → Prop} {R : PX} {tt : TT} {vs : List Nat} {g : TG} {wi : TI}
theorem gv_name {i : Nat} {d : Da} {PG : Dl → Prop} (hi : i ∈ vs) (k : PG (δ.set i (some (.d d)))) : Gv K (gName i) vs d δ PG := fun w σ Hb H v s r Q q => q _ _ _ k (s.set r) (Fm.refl _ _ _) (wipe_set σ hi _)
theorem gsv_nil {PG : Dl → Prop} (k : PG δ) : GSv K gNil vs [] δ PG := fun w σ Hb H us s r Q q => by
  cases r
  exact ⟨rfl, q δ w σ k s (Fm.refl _ _ _) rfl⟩
theorem gsv_cons {gs : TGs} {d : Da} {ds : List Da} {PG : Dl → Prop} (h : Gv K g vs d δ (fun δ1 => GSv K gs vs ds δ1 PG)) : GSv K (gCons g gs) vs (d :: ds) δ PG := fun w σ Hb H us s r Q q => by
  cases r with
  | cons r1 r2 =>
    refine ⟨_, _, rfl, h w σ Hb H _ s r1 _ fun δ1 w1 σ1 k1 s1 f1 e1 => ?_⟩
    exact k1 w1 σ1 Hb H _ s1 r2 Q fun δ2 w2 σ2 k2 s2 f2 e2 => q δ2 w2 σ2 k2 s2 (f1.trans f2) (e2.trans e1)
theorem gv_tup {n : Nat} {gs : TGs} {ds : List Da} {PG : Dl → Prop} (hn : ds.length = n) (h : GSv K gs vs ds δ PG) : Gv K (gTup K n gs) vs (.tup ds) δ PG := fun w σ Hb H v s r Q q => by
  cases r with
  | tup hs ha => exact ⟨_, _, rfl, same_t s.sub hs, by rw [ha.length]; exact hn, h w σ Hb H _ s ha Q q⟩
theorem w_lc (h : WI K E wi δ (fun ds δ1 => NoneAt δ1 vs ∧ ds.length ≤ 16000000 ∧ ∃ I : Nat → List Da → Dl → Prop, I 0 [] δ1 ∧
      (∀ (i : Nat) d acc δ2, ds[i]? = some d → acc.length ≤ i → NoneAt δ2 vs → I i acc δ2 → Gv K g vs d δ2 (fun δ3 => WT K Ef tt δ3 (fun b δ4 =>
        (b = true → W K Ef te δ4 (fun y δ5 => ∃ e, y = .d e ∧ I (i + 1) (acc ++ [e]) (wipeD δ5 vs)) X0) ∧ (b = false → I (i + 1) acc (wipeD δ4 vs))) X0)) ∧
      ∀ acc δ2, acc.length ≤ ds.length → I ds.length acc δ2 → P (.d (.lst acc)) δ2) X) : W K E (tLc wi g tt te vs) δ P X := fun w σ Hb H s Q q e => by
  refine h w σ Hb H s _ (fun ds δ1 J w1 Hb1 H1 ⟨n1, hz, I, i0, hs, hd⟩ s1 yl f1 => ?_) e
  intro D hD
  refine ⟨fun i m H' => m = ds.length - i ∧ i ≤ ds.length ∧ ∃ δ2 w2 Hb2 acc xs, I i acc δ2 ∧ NoneAt δ2 vs ∧ acc.length ≤ i ∧ SD K w2 Hb2 H' (wipe σ vs) δ2 ∧ Fm w1 Hb1 H1 w2 Hb2 H' ∧ H' D = some (.lst xs) ∧ w2 D = none ∧ Hb2 D = none ∧ RpAll K Hb2 xs acc, ?_, ?_⟩
  · obtain ⟨s2, f2⟩ := s1.side (o := .lst []) hD
    exact ⟨ds.length, by simp, Nat.zero_le _, δ1, w1, Hb1, [], [], i0, n1, Nat.le_refl _, s2.enter n1, f2, upd_same, s1.wfree hD, s1.free hD, .nil⟩
  rintro i m H2 ⟨rfl, hi, δ2, w2, Hb2, acc, xs, i2, n2, la, s2, f2, hD2, hw2, hb2, ra⟩
  have e2 : Same Hb1 H2 := f2.b.trans s2.sub
  by_cases hlt : i < ds.length
  · refine .inr ⟨yl.go i H2 e2 hlt, fun H' => ∃ δ2 w2 Hb2 acc xs, I (i + 1) acc δ2 ∧ NoneAt δ2 vs ∧ acc.length ≤ i + 1 ∧ SD K w2 Hb2 H' (wipe σ vs) δ2 ∧ Fm w1 Hb1 H1 w2 Hb2 H' ∧ H' D = some (.lst xs) ∧ w2 D = none ∧ Hb2 D = none ∧ RpAll K Hb2 xs acc, ?_, ?_⟩
    · rintro H' ⟨δ3, w3, Hb3, acc3, xs3, r3⟩
      exact ⟨ds.length - (i + 1), by omega, rfl, hlt, δ3, w3, Hb3, acc3, xs3, r3⟩
    · intro x H' y
      obtain ⟨eH, d, hd', rd⟩ := yl.yld i H2 x H' e2 y hlt
      subst eH
      refine hs i d acc δ2 hd' la n2 i2 w2 _ Hb2 _ x s2 (Rp.mono f2.b rd) _ fun δ3 w3 σ3 k3 s3 f3 ew => ?_
      rw [wipe_idem] at ew
      refine ⟨ew, k3 w3 σ3 Hb2 _ s3 _ (fun b δ4 w4 Hb4 H4 k4 s4 f4 => ?_) (fun _ _ _ _ _ z => z.elim)⟩
      have g3 := f3.fr D _ hD2 hw2 hb2
      have g4 := f4.fr D _ g3.1 g3.2.1 g3.2.2
      cases b with
      | true =>
        refine k4.1 rfl w4 σ3 Hb4 H4 s4 _ (fun y δ5 v w5 Hb5 H5 ⟨e5, ey, k5⟩ s5 r5 f5 => ?_) (fun _ _ _ _ _ z => z.elim)
        subst ey
        have g5 := f5.fr D _ g4.1 g4.2.1 g4.2.2
        have ra5 := ra.mono ((f3.trans f4).trans f5).b
        refine ⟨xs, g5.1, szl (by rw [ra.length]; omega), wipeD δ5 vs, w5, Hb5, acc ++ [e5], xs ++ [v], k5, wipeD_none _ _, by rw [List.length_append, List.length_singleton]; omega, ?_, ?_, upd_same, g5.2.1, g5.2.2, ra5.append (.cons r5 .nil)⟩
        · have s6 := s5.wipe vs
          rw [ew] at s6
          have nD : ∀ a p, w5 a = some p → a ≠ D := fun a p z1 z2 => by
            rw [z2, g5.2.1] at z1
            cases z1
          have al : ∀ a, H5 a ≠ none → upd H5 D (.lst (xs ++ [v])) a ≠ none := fun a z => by
            by_cases q : a = D
            · subst q
              rw [upd_same]
              exact fun z => nomatch z
            · rw [upd_ne q]
              exact z
          refine ⟨fun a u z => ?_, s6.dis, fun a p z => ⟨al a (s6.dom a p z).1, al p (s6.dom a p z).2⟩, s6.uniq, fun j y z => ?_, s6.len⟩
          · rw [upd_ne (ne_of_none z g5.2.2)]
            exact s6.sub a u z
          · obtain ⟨u, h1, h2⟩ := s6.val j y z
            refine ⟨u, h1, ?_⟩
            cases y with
            | d y => exact h2
            | o p A => exact ⟨h2.1, A.loc (fun a ha => upd_ne (nD a p ha)) h2.2⟩
        · have ff := ((f2.trans f3).trans f4).trans f5
          refine ⟨ff.b, fun a o z1 z2 z3 => ?_, fun a z => ?_, ff.rt⟩
          · obtain ⟨q1, q2, q3⟩ := ff.fr a o z1 z2 z3
            exact ⟨by rw [upd_ne (ne_of_none z1 hD)]; exact q1, q2, q3⟩
          · by_cases q : a = D
            · subst q
              rw [upd_same]
              exact fun z => nomatch z
            · rw [upd_ne q]
              exact ff.al a z
      | false =>
        have s6 := s4.wipe vs
        rw [ew] at s6
        exact ⟨wipeD δ4 vs, w4, Hb4, acc, xs, k4.2 rfl, wipeD_none _ _, by omega, s6, (f2.trans f3).trans f4, g4.1, g4.2.1, g4.2.2, ra.mono (f3.trans f4).b⟩
  · have ei : i = ds.length := by omega
    subst ei
    refine .inl ⟨yl.stop H2 e2, ?_⟩
    have s3 := (s2.unwipe).take hD2 hw2 hb2
    refine q _ δ2 _ w2 _ H2 (hd acc δ2 la i2) s3 (.lst upd_same (ra.mono (same_new hb2))) (f1.trans ⟨f2.b.trans (same_new hb2), fun a o z1 z2 z3 => ?_, f2.al, f2.rt⟩)
    obtain ⟨q1, q2, q3⟩ := f2.fr a o z1 z2 z3
    exact ⟨q1, q2, by rw [upd_ne (ne_of_none z1 hD)]; exact q3⟩
/-- a comprehension whose parts only read -/
theorem w_lcP (f : Da → Option Da) (h : WI K E wi δ (fun ds δ1 => NoneAt δ1 vs ∧ ds.length ≤ 16000000 ∧
      (∀ (i : Nat) d, ds[i]? = some d → Gv K g vs d δ1 (fun δ3 => WT K Ef tt δ3 (fun b δ4 =>
        (b = true → W K Ef te δ4 (fun y δ5 => ∃ e, y = .d e ∧ f d = some e ∧ wipeD δ5 vs = δ1) X0) ∧ (b = false → f d = none ∧ wipeD δ4 vs = δ1)) X0)) ∧
      P (.d (.lst (ds.filterMap f))) δ1) X) : W K E (tLc wi g tt te vs) δ P X := by
  refine w_lc (fun w σ Hb H s Q q e => h w σ Hb H s Q (fun ds δ' J w' Hb' H' ⟨h1, h2, h3, h4⟩ s' yl fm => q ds δ' J w' Hb' H' ⟨h1, h2, fun i acc δ2 => acc = (ds.take i).filterMap f ∧ δ2 = δ', ⟨by simp, rfl⟩, ?_, ?_⟩ s' yl fm) e)
  · rintro i d acc δ2 hd _ _ ⟨rfl, rfl⟩
    have et : (ds.take (i + 1)).filterMap f = (ds.take i).filterMap f ++ (match f d with | some e => [e] | none => []) := by
      rw [List.take_succ, hd, List.filterMap_append]
      congr 1
      simp [List.filterMap_cons]
      cases f d <;> rfl
    intro w σ Hb H v s r Q q
    refine h3 i d hd w σ Hb H v s r Q fun δ3 w3 σ3 k3 s3 f3 ew => q δ3 w3 σ3 (fun w4 σ4 Hb4 H4 s4 Q4 q4 e4 => k3 w4 σ4 Hb4 H4 s4 Q4 (fun b δ4 w5 Hb5 H5 k5 s5 f5 => q4 b δ4 w5 Hb5 H5 ⟨fun hb => (k5.1 hb).imp ?_, fun hb => ?_⟩ s5 f5) e4) s3 f3 ew
    · rintro y δ5 ⟨e, rfl, k1, k2⟩
      refine ⟨e, rfl, ?_, k2⟩
      rw [et, k1]
    · obtain ⟨k1, k2⟩ := k5.2 hb
      refine ⟨?_, k2⟩
      rw [et, k1, List.append_nil]
  · rintro acc δ2 _ ⟨rfl, rfl⟩
    rw [List.take_of_length_le (Nat.le_refl _)]
    exact h4
theorem wt_yes {PT' : Bool → Dl → Prop} (k : PT' true δ) : WT K E tYes δ PT' X := fun w σ Hb H s Q q _ => q true δ w Hb H k s (Fm.refl _ _ _)
end

/-! ### functions -/
abbrev FS := List Dx → (Da → Dl → Prop) → XX → Prop
def SpOf (K : PySem.W.Frag) (F : FS) : Sp := fun vs H Q E => ∃ (w : Ow) (Hb : Hp) (ys : List Dx) (R : Da → Dl → Prop) (X : XX), SD K w Hb H (vs.map some) (ys.map some) ∧ F ys R X ∧
  (∀ d ys' v w' Hb' H', R d ys' → SD K w' Hb' H' (vs.map some) ys' → Rp K Hb' v d → Fm w Hb H w' Hb' H' → Q v H') ∧
  (∀ C ys' w' Hb' H', X C ys' → SD K w' Hb' H' (vs.map some) ys' → Fm w Hb H w' Hb' H' → E (.ref (He.ga K C)) none H')
theorem spOf_len {K : PySem.W.Frag} {F : FS} {n : Nat} (h : ∀ ys R X, F ys R X → ys.length = n) {vs : List V} {H : Hp} {Q : VK} {E : XK} (k : SpOf K F vs H Q E) : vs.length = n := by
  obtain ⟨w, Hb, ys, R, X, s, f, _⟩ := k
  have e := s.len
  rw [List.length_map, List.length_map] at e
  rw [← e]
  exact h ys R X f
/-- owned lists -/
def olst (K : PySem.W.Frag) (ds : List Da) : OwnA where
  ok := fun Hb H F p => ∃ xs, H p = some (.lst xs) ∧ RpAll K Hb xs ds ∧ ∀ a, F a ↔ a = p
  mono := fun e ⟨xs, h1, h2, h3⟩ => ⟨xs, h1, h2.mono e, h3⟩
  loc := fun k ⟨xs, h1, h2, h3⟩ => ⟨xs, by rw [k _ ((h3 _).mpr rfl)]; exact h1, h2, h3⟩
  root := fun ⟨xs, h1, h2, h3⟩ => ⟨by rw [h1]; exact fun z => (nomatch z), (h3 _).mpr rfl⟩
theorem olst_freeze {K : PySem.W.Frag} {w : Ow} {Hb H : Hp} {σ : St} {δ : Dl} (s : SD K w Hb H σ δ) {i : Nat} {p : Addr} {ds : List Da} (hi : δ[i]? = some (some (.o p (olst K ds)))) :
    ∃ w' Hb', SD K w' Hb' H σ (δ.set i (some (.d (.lst ds)))) ∧ Fm w Hb H w' Hb' H ∧ Rp K Hb' (.ref p) (.lst ds) := by
  obtain ⟨v, _, _, xs, h1, h2, h3⟩ := s.val i _ hi
  have hb : Hb p = none := s.dis p p ((h3 p).mpr rfl)
  have hn := same_new (o := HO.lst xs) hb
  have hr : Rp K (upd Hb p (.lst xs)) (.ref p) (.lst ds) := .lst upd_same (h2.mono hn)
  obtain ⟨w', s', f'⟩ := s.freeze hi hn (fun a u e => by
    by_cases q : a = p
    · subst q
      rw [upd_same] at e
      cases e
      exact h1
    · rw [upd_ne q] at e
      exact s.sub a u e) (fun a u e n => by
    by_cases q : a = p
    · subst q
      exact (h3 a).mpr rfl
    · rw [upd_ne q, n] at e
      cases e) hr
  exact ⟨w', _, s', f', hr⟩
/-- what a def gives back to its caller of its parameters -/
def outs : List Dx → Dl → Dl
  | .o p _ :: ys, some (.o _ A) :: δ => some (.o p A) :: outs ys δ
  | _ :: ys, _ :: δ => none :: outs ys δ
  | _ :: ys, [] => none :: outs ys []
  | [], _ => []
def keepP : List Dx → Dl → Prop
  | .o p _ :: ys, some (.o q _) :: δ => p = q ∧ keepP ys δ
  | _ :: ys, _ :: δ => keepP ys δ
  | _ :: _, [] => True
  | [], _ => True
theorem outs_get : ∀ {ys : List Dx} {δ : Dl} {j : Nat} {y : Dx}, keepP ys δ → (outs ys δ)[j]? = some (some y) → ∃ p A B, y = .o p B ∧ ys[j]? = some (.o p A) ∧ δ[j]? = some (some (.o p B))
  | [], _, j, y, _, h => by simp [outs] at h
  | .d x :: ys, [], 0, y, _, h => by simp [outs] at h
  | .o p A :: ys, [], 0, y, _, h => by simp [outs] at h
  | .d x :: ys, [], j + 1, y, _, h => by
    obtain ⟨p, A, B, e1, e2, e3⟩ := outs_get (ys := ys) (δ := []) (j := j) (y := y) (by cases ys with | nil => trivial | cons y _ => cases y <;> trivial) (by simpa [outs] using h)
    simp at e3
  | .o p A :: ys, [], j + 1, y, _, h => by
    obtain ⟨p, A, B, e1, e2, e3⟩ := outs_get (ys := ys) (δ := []) (j := j) (y := y) (by cases ys with | nil => trivial | cons y _ => cases y <;> trivial) (by simpa [outs] using h)
    simp at e3
  | .d x :: ys, z :: δ, 0, y, _, h => by simp [outs] at h
  | .d x :: ys, z :: δ, j + 1, y, k, h => by
    obtain ⟨p, A, B, e1, e2, e3⟩ := outs_get (ys := ys) (δ := δ) (j := j) (y := y) k (by simpa [outs] using h)
    exact ⟨p, A, B, e1, by simpa using e2, by simpa using e3⟩
  | .o p A :: ys, none :: δ, 0, y, _, h => by simp [outs] at h
  | .o p A :: ys, some (.d x) :: δ, 0, y, _, h => by simp [outs] at h
  | .o p A :: ys, some (.o q B) :: δ, 0, y, k, h => by
    simp [outs] at h
    obtain ⟨k1, _⟩ := k
    subst k1
    exact ⟨p, A, B, h.symm, rfl, rfl⟩
  | .o p A :: ys, none :: δ, j + 1, y, k, h => by
    obtain ⟨p, A, B, e1, e2, e3⟩ := outs_get (ys := ys) (δ := δ) (j := j) (y := y) k (by simpa [outs] using h)
    exact ⟨p, A, B, e1, by simpa using e2, by simpa using e3⟩
  | .o p A :: ys, some (.d x) :: δ, j + 1, y, k, h => by
    obtain ⟨p, A, B, e1, e2, e3⟩ := outs_get (ys := ys) (δ := δ) (j := j) (y := y) k (by simpa [outs] using h)
    exact ⟨p, A, B, e1, by simpa using e2, by simpa using e3⟩
  | .o p A :: ys, some (.o q B) :: δ, j + 1, y, k, h => by
    obtain ⟨p, A, B, e1, e2, e3⟩ := outs_get (ys := ys) (δ := δ) (j := j) (y := y) k.2 (by simpa [outs] using h)
    exact ⟨p, A, B, e1, by simpa using e2, by simpa using e3⟩
theorem outs_len : ∀ (ys : List Dx) (δ : Dl), (outs ys δ).length = ys.length
  | [], _ => rfl
  | .d x :: ys, [] => by simp [outs, outs_len ys []]
  | .o p A :: ys, [] => by simp [outs, outs_len ys []]
  | .d x :: ys, _ :: δ => by simp [outs, outs_len ys δ]
  | .o p A :: ys, none :: δ => by simp [outs, outs_len ys δ]
  | .o p A :: ys, some (.d _) :: δ => by simp [outs, outs_len ys δ]
  | .o p A :: ys, some (.o _ _) :: δ => by simp [outs, outs_len ys δ]
/-- at a def's end -/
theorem SD.back {K : PySem.W.Frag} {w w1 : Ow} {Hb H Hb1 H1 : Hp} {vs : List V} {ys : List Dx} {σ1 : St} {δ1 : Dl} (s : SD K w Hb H (vs.map some) (ys.map some)) (s1 : SD K w1 Hb1 H1 σ1 δ1) (k : keepP ys δ1) :
    SD K w1 Hb1 H1 (vs.map some) (outs ys δ1) := by
  refine ⟨s1.sub, s1.dis, s1.dom, fun i j p A B h1 h2 => ?_, fun i x h => ?_, ?_⟩
  · obtain ⟨p1, A1, B1, e1, e2, e3⟩ := outs_get k h1
    obtain ⟨p2, A2, B2, e4, e5, e6⟩ := outs_get k h2
    cases e1
    cases e4
    exact s1.uniq i j p _ _ e3 e6
  · obtain ⟨p, A, B, rfl, e2, e3⟩ := outs_get k h
    obtain ⟨v1, q1, q2, q3⟩ := s1.val i _ e3
    obtain ⟨v2, r1, r2, _⟩ := s.val i (.o p A) (by rw [List.getElem?_map, e2]; rfl)
    exact ⟨v2, r1, r2, q3⟩
  · rw [outs_len]
    have := s.len
    rw [List.length_map] at this
    exact this
/-- a value handed back -/
def RetD (K : PySem.W.Frag) (n : Nat) (x : Vx) (δ : Dl) (k : Da → Prop) : Prop := match x with
  | .d d => k d
  | .a p => ∃ (i : Nat) (ds : List Da), n ≤ i ∧ δ[i]? = some (some (.o p (olst K ds))) ∧ k (.lst ds)
  | .t _ => False
theorem outs_set : ∀ {ys : List Dx} {δ : Dl} {i : Nat} {y : Option Dx}, ys.length ≤ i → outs ys (δ.set i y) = outs ys δ
  | [], _, _, _, _ => by simp [outs]
  | _ :: _, [], _, _, _ => by simp
  | _ :: _, _ :: _, 0, _, h => by simp at h
  | .d x :: ys, z :: δ, i + 1, y, h => by simp [outs, outs_set (ys := ys) (δ := δ) (i := i) (y := y) (by simpa using h)]
  | .o p A :: ys, none :: δ, i + 1, y, h => by simp [outs, outs_set (ys := ys) (δ := δ) (i := i) (y := y) (by simpa using h)]
  | .o p A :: ys, some (.d _) :: δ, i + 1, y, h => by simp [outs, outs_set (ys := ys) (δ := δ) (i := i) (y := y) (by simpa using h)]
  | .o p A :: ys, some (.o _ _) :: δ, i + 1, y, h => by simp [outs, outs_set (ys := ys) (δ := δ) (i := i) (y := y) (by simpa using h)]
theorem keepP_set : ∀ {ys : List Dx} {δ : Dl} {i : Nat} {y : Option Dx}, ys.length ≤ i → keepP ys δ → keepP ys (δ.set i y)
  | [], _, _, _, _, _ => by cases ‹Dl› <;> trivial
  | _ :: _, [], _, _, _, k => k
  | _ :: _, _ :: _, 0, _, h, _ => by simp at h
  | .d x :: ys, z :: δ, i + 1, y, h, k => keepP_set (ys := ys) (δ := δ) (i := i) (y := y) (by simpa using h) k
  | .o p A :: ys, none :: δ, i + 1, y, h, k => keepP_set (ys := ys) (δ := δ) (i := i) (y := y) (by simpa using h) k
  | .o p A :: ys, some (.d _) :: δ, i + 1, y, h, k => keepP_set (ys := ys) (δ := δ) (i := i) (y := y) (by simpa using h) k
  | .o p A :: ys, some (.o _ _) :: δ, i + 1, y, h, k => ⟨k.1, keepP_set (ys := ys) (δ := δ) (i := i) (y := y) (by simpa using h) k.2⟩
theorem SD.start {K : PySem.W.Frag} {w : Ow} {Hb H : Hp} {vs : List V} {ys : List Dx} (s : SD K w Hb H (vs.map some) (ys.map some)) (n : Nat) : SD K w Hb H (vs.map some ++ List.replicate n none) (ys.map some ++ List.replicate n none) := by
  have e := s.len
  have back : ∀ (i : Nat) (x : Dx), (ys.map some ++ List.replicate n none)[i]? = some (some x) → (ys.map some)[i]? = some (some x) := fun i x h => by
    by_cases q : i < (ys.map some).length
    · rw [List.getElem?_append_left q] at h
      exact h
    · rw [List.getElem?_append_right (by omega), List.getElem?_replicate] at h
      split at h <;> cases h
  refine ⟨s.sub, s.dis, s.dom, fun i j p A B h1 h2 => s.uniq i j p A B (back _ _ h1) (back _ _ h2), fun i x h => ?_, by simp at e ⊢; exact e⟩
  obtain ⟨v, h1, h2⟩ := s.val i x (back i x h)
  refine ⟨v, ?_, h2⟩
  have q : i < (vs.map some).length := (List.getElem?_eq_some_iff.mp h1).1
  rw [List.getElem?_append_left q]
  exact h1
/-- THE BODY of a def, at the level of data -/
theorem body {K : PySem.W.Frag} {F : FS} {ts : XK → TS} {N : List Str} {vs : List V} {H : Hp} {Q : VK} {E : XK} (n : Nat) (m : Nat) (hN : N.length = n + m) (hlen : ∀ ys R X, F ys R X → ys.length = n)
    (hT : ∀ ys R X, F ys R X → T K (fun c d _ H => E c d H) (ts E) (ys.map some ++ List.replicate m none) (fun δ' => R .non (outs ys δ') ∧ keepP ys δ') (fun x δ' => RetD K n x δ' (fun d => R d (outs ys δ')) ∧ keepP ys δ') (fun C δ' => X C (outs ys δ') ∧ keepP ys δ'))
    (h : SpOf K F vs H Q E) : ts E { nx := fun _ H' => Q .non H', rt := Q } (L2.start N vs) H := by
  have hl := spOf_len hlen h
  obtain ⟨w, Hb, ys, R, X, s, f, q1, q2⟩ := h
  have hy := hlen ys R X f
  have es : L2.start N vs = vs.map some ++ List.replicate m none := by
    unfold L2.start
    rw [hN, hl, Nat.add_sub_cancel_left]
  rw [es]
  refine hT ys R X f w _ Hb H _ (s.start m) ?_ ?_ ?_
  · rintro δ' w' σ' Hb' H' ⟨k1, k2⟩ s' f'
    exact q1 _ _ _ w' Hb' H' k1 (s.back s' k2) .non f'
  · rintro x δ' v w' σ' Hb' H' ⟨k1, k2⟩ s' r' f'
    cases x with
    | d d => exact q1 d _ v w' Hb' H' k1 (s.back s' k2) r' f'
    | a p =>
      obtain ⟨i, ds, hi, e, k1⟩ := k1
      obtain ⟨w2, Hb2, s2, f2, r2⟩ := olst_freeze s' e
      rw [← hy] at hi
      have e2 : v = .ref p := r'
      subst e2
      have k3 := keepP_set (y := some (.d (.lst ds))) hi k2
      have s3 := s.back s2 k3
      rw [outs_set hi] at s3
      exact q1 _ _ _ w2 Hb2 H' k1 s3 r2 (f'.trans f2)
    | t n => exact k1.elim
  · rintro σ' C δ' w' Hb' H' ⟨k1, k2⟩ s' f'
    exact q2 C _ w' Hb' H' k1 (s.back s' k2) f'

/-! ### calls -/
inductive Lk (δ : Dl) : List Vx → List Dx → List (Option Nat) → Prop
  | nil : Lk δ [] [] []
  | d {x : Da} {xs : List Vx} {ys : List Dx} {ls : List (Option Nat)} : Lk δ xs ys ls → Lk δ (.d x :: xs) (.d x :: ys) (none :: ls)
  | o {p : Addr} {A : OwnA} {i : Nat} {xs : List Vx} {ys : List Dx} {ls : List (Option Nat)} : δ[i]? = some (some (.o p A)) → Lk δ xs ys ls → Lk δ (.a p :: xs) (.o p A :: ys) (some i :: ls)
def updL (δ : Dl) : List (Option Nat) → Dl → Dl
  | [], _ => δ
  | none :: ls, ys => updL δ ls ys.tail
  | some i :: ls, ys => (updL δ ls ys.tail).set i (ys.head?.join)
theorem updL_len (δ : Dl) : ∀ (ls : List (Option Nat)) (ys : Dl), (updL δ ls ys).length = δ.length
  | [], _ => rfl
  | none :: ls, ys => updL_len δ ls ys.tail
  | some i :: ls, ys => by
    unfold updL
    rw [List.length_set, updL_len δ ls ys.tail]
/-- an entry of the updated slots: an elder one, or a linked one -/
theorem updL_get (δ : Dl) : ∀ (ls : List (Option Nat)) (ys : Dl) (i : Nat) (x : Dx), (updL δ ls ys)[i]? = some (some x) → ((∀ j : Nat, ls[j]? ≠ some (some i)) ∧ δ[i]? = some (some x)) ∨ ∃ j : Nat, ls[j]? = some (some i) ∧ ys[j]? = some (some x)
  | [], ys, i, x, h => .inl ⟨fun j => by simp, h⟩
  | none :: ls, ys, i, x, h => by
    rcases updL_get δ ls ys.tail i x h with ⟨h1, h2⟩ | ⟨j, h1, h2⟩
    · refine .inl ⟨fun j => ?_, h2⟩
      cases j with
      | zero => simp
      | succ j => simpa using h1 j
    · refine .inr ⟨j + 1, by simpa using h1, ?_⟩
      cases ys with
      | nil => simp at h2
      | cons y ys => simpa using h2
  | some k :: ls, ys, i, x, h => by
    have h' : ((updL δ ls ys.tail).set k (ys.head?.join))[i]? = some (some x) := h
    clear h
    rw [List.getElem?_set] at h'
    split at h'
    · rename_i q
      subst q
      split at h'
      · refine .inr ⟨0, rfl, ?_⟩
        cases ys with
        | nil => simp at h'
        | cons y ys => simpa using h'
      · cases h'
    · rename_i q
      rcases updL_get δ ls ys.tail i x h' with ⟨h1, h2⟩ | ⟨j, h1, h2⟩
      · refine .inl ⟨fun j => ?_, h2⟩
        cases j with
        | zero => simpa using q
        | succ j => simpa using h1 j
      · refine .inr ⟨j + 1, by simpa using h1, ?_⟩
        cases ys with
        | nil => simp at h2
        | cons y ys => simpa using h2
theorem Lk.at {δ : Dl} : ∀ {xs : List Vx} {ys : List Dx} {ls : List (Option Nat)}, Lk δ xs ys ls → ∀ (j : Nat), (∀ x, ys[j]? = some (.d x) → xs[j]? = some (.d x)) ∧ (∀ p A, ys[j]? = some (.o p A) → xs[j]? = some (.a p) ∧ ∃ i, ls[j]? = some (some i) ∧ δ[i]? = some (some (.o p A))) ∧
    (∀ i, ls[j]? = some (some i) → ∃ p A, ys[j]? = some (.o p A) ∧ δ[i]? = some (some (.o p A)))
  | _, _, _, .nil, j => ⟨fun x h => by simp at h, fun p A h => by simp at h, fun i h => by simp at h⟩
  | _, _, _, .d t, 0 => ⟨fun x h => by simpa using h, fun p A h => by simp at h, fun i h => by simp at h⟩
  | _, _, _, .d t, j + 1 => by simpa using Lk.at t j
  | _, _, _, .o (p := q) (A := B) e t, 0 => ⟨fun x h => by simp at h, fun p A h => by
      simp at h
      obtain ⟨h1, h2⟩ := h
      subst h1 h2
      exact ⟨rfl, _, rfl, e⟩, fun i h => by
      simp at h
      subst h
      exact ⟨q, B, rfl, e⟩⟩
  | _, _, _, .o e t, j + 1 => by simpa using Lk.at t j
theorem paired_get {α β : Type} {f : α → β → Prop} : ∀ {l : List α} {m : List β} {i : Nat} {y : β}, Paired f l m → m[i]? = some y → ∃ x, l[i]? = some x ∧ f x y
  | _, _, _, _, .nil, h => by simp at h
  | _, _, 0, _, .cons r _, h => by
    simp at h
    subst h
    exact ⟨_, rfl, r⟩
  | _, _, i + 1, _, .cons _ t, h => by
    obtain ⟨x, h1, h2⟩ := paired_get (i := i) t (by simpa using h)
    exact ⟨x, by simpa using h1, h2⟩
theorem Lk.len {δ : Dl} : ∀ {xs : List Vx} {ys : List Dx} {ls : List (Option Nat)}, Lk δ xs ys ls → xs.length = ys.length
  | _, _, _, .nil => rfl
  | _, _, _, .d t => by rw [List.length_cons, List.length_cons, t.len]
  | _, _, _, .o _ t => by rw [List.length_cons, List.length_cons, t.len]
def Uq (ys : List Dx) : Prop := ∀ (i j : Nat) (p : Addr) (A B : OwnA), ys[i]? = some (.o p A) → ys[j]? = some (.o p B) → i = j
open Classical in
theorem call_sd {K : PySem.W.Frag} {w : Ow} {Hb H : Hp} {σ : St} {δ : Dl} {xs : List Vx} {ys : List Dx} {ls : List (Option Nat)} {vs : List V} (s : SD K w Hb H σ δ) (r : Paired (Rv K Hb) vs xs) (lk : Lk δ xs ys ls) (uq : Uq ys) :
    ∃ w0, SD K w0 Hb H (vs.map some) (ys.map some) ∧ ∀ w1 Hb1 H1 ys', SD K w1 Hb1 H1 (vs.map some) ys' → Fm w0 Hb H w1 Hb1 H1 → ∃ w2, SD K w2 Hb1 H1 σ (updL δ ls ys') ∧ Fm w Hb H w2 Hb1 H1 := by
  let Pd : Addr → Prop := fun p => ∃ (j : Nat) (A : OwnA), ys[j]? = some (.o p A)
  let w0 : Ow := fun a => if ∃ p, w a = some p ∧ Pd p then w a else none
  have w0_of : ∀ {a p}, w a = some p → Pd p → w0 a = some p := fun {a p} h k => by
    show (if ∃ p, w a = some p ∧ Pd p then w a else none) = some p
    rw [if_pos ⟨p, h, k⟩]
    exact h
  have of_w0 : ∀ {a p}, w0 a = some p → w a = some p ∧ Pd p := fun {a p} h => by
    have h : (if ∃ p, w a = some p ∧ Pd p then w a else none) = some p := h
    split at h
    · rename_i z
      obtain ⟨q, z1, z2⟩ := z
      rw [z1] at h
      cases h
      exact ⟨z1, z2⟩
    · cases h
  have w0_no : ∀ {a p}, w a = some p → ¬ Pd p → w0 a = none := fun {a p} h k => by
    cases e : w0 a with
    | none => rfl
    | some q =>
      obtain ⟨z1, z2⟩ := of_w0 e
      rw [h] at z1
      cases z1
      exact absurd z2 k
  have hv : vs.length = ys.length := by
    have e1 := Paired.length r
    rw [e1, lk.len]
  refine ⟨w0, ⟨s.sub, fun a p h => s.dis a p (of_w0 h).1, fun a p h => s.dom a p (of_w0 h).1, fun i j p A B h1 h2 => ?_, fun j x h => ?_, by rw [List.length_map, List.length_map, hv]⟩, ?_⟩
  · rw [List.getElem?_map] at h1 h2
    refine uq i j p A B ?_ ?_
    · cases e : ys[i]? with
      | none => rw [e] at h1; cases h1
      | some y => rw [e] at h1; simpa using h1
    · cases e : ys[j]? with
      | none => rw [e] at h2; cases h2
      | some y => rw [e] at h2; simpa using h2
  · rw [List.getElem?_map] at h
    have hy : ys[j]? = some x := by
      cases e : ys[j]? with
      | none => rw [e] at h; cases h
      | some y => rw [e] at h; simpa using h
    obtain ⟨l1, l2, _⟩ := lk.at j
    cases x with
    | d x =>
      obtain ⟨v, h1, h2⟩ := paired_get r (l1 x hy)
      exact ⟨v, by rw [List.getElem?_map, h1]; rfl, h2⟩
    | o p A =>
      obtain ⟨q1, i, q2, q3⟩ := l2 p A hy
      obtain ⟨v, h1, h2⟩ := paired_get r q1
      obtain ⟨u, k1, k2, k3⟩ := s.val i _ q3
      refine ⟨v, by rw [List.getElem?_map, h1]; rfl, h2, ?_⟩
      have e2 : (fun a => w0 a = some p) = (fun a => w a = some p) := funext fun a => propext ⟨fun z => (of_w0 z).1, fun z => w0_of z ⟨j, A, hy⟩⟩
      rw [e2]
      exact k3
  · intro w1 Hb1 H1 ys' s1 f1
    let w2 : Ow := fun a => match w1 a with | some p => some p | none => if w0 a = none then w a else none
    have of_w2 : ∀ {a p}, w2 a = some p → w1 a = some p ∨ (w1 a = none ∧ w0 a = none ∧ w a = some p) := fun {a p} h => by
      have h : (match w1 a with | some p => some p | none => if w0 a = none then w a else none) = some p := h
      cases e : w1 a with
      | some q => rw [e] at h; exact .inl h
      | none =>
        rw [e] at h
        have h : (if w0 a = none then w a else none) = some p := h
        split at h
        · rename_i z
          exact .inr ⟨rfl, z, h⟩
        · cases h
    have stay : ∀ {a p}, w0 a = none → w a = some p → ∃ o, H a = some o ∧ H1 a = some o ∧ w1 a = none ∧ Hb1 a = none := fun {a p} h1 h2 => by
      cases e : H a with
      | none => exact absurd e (s.dom a p h2).1
      | some o =>
        obtain ⟨z1, z2, z3⟩ := f1.fr a o e h1 (s.dis a p h2)
        exact ⟨o, rfl, z1, z2, z3⟩
    -- the linked entries keep their addresses
    have keep : ∀ {j i : Nat} {p : Addr} {B : OwnA}, ls[j]? = some (some i) → ys'[j]? = some (some (.o p B)) → ∃ A, δ[i]? = some (some (.o p A)) ∧ ys[j]? = some (.o p A) := fun {j i p B} h1 h2 => by
      obtain ⟨_, l2, l3⟩ := lk.at j
      obtain ⟨q, A, e1, e2⟩ := l3 i h1
      obtain ⟨v1, a1, a2, _⟩ := s1.val j _ h2
      obtain ⟨b1, _⟩ := l2 q A e1
      obtain ⟨v2, c1, c2⟩ := paired_get r b1
      rw [List.getElem?_map, c1] at a1
      have a3 : v2 = v1 := Option.some.inj (Option.some.inj a1)
      have c3 : v2 = .ref q := c2
      rw [a3, a2] at c3
      cases c3
      exact ⟨A, e2, e1⟩
    refine ⟨w2, ⟨s1.sub, fun a p h => ?_, fun a p h => ?_, fun i j p A B h1 h2 => ?_, fun i x h => ?_, by rw [updL_len]; exact s.len⟩, ⟨f1.b, fun a o h1 h2 h3 => ?_, f1.al, fun a p h => ?_⟩⟩
    · rcases of_w2 h with z | ⟨z1, z2, z3⟩
      · exact s1.dis a p z
      · obtain ⟨_, _, _, _, q⟩ := stay z2 z3
        exact q
    · rcases of_w2 h with z | ⟨z1, z2, z3⟩
      · exact s1.dom a p z
      · obtain ⟨o, _, q, _⟩ := stay z2 z3
        exact ⟨by rw [q]; exact fun z => (nomatch z), f1.al p (s.dom a p z3).2⟩
    · have el : ∀ (i : Nat) (A : OwnA), (updL δ ls ys')[i]? = some (some (.o p A)) → ∃ B, δ[i]? = some (some (.o p B)) := fun i A z => by
        rcases updL_get δ ls ys' i _ z with ⟨_, q⟩ | ⟨j, q1, q2⟩
        · exact ⟨A, q⟩
        · obtain ⟨A', q3, _⟩ := keep q1 q2
          exact ⟨A', q3⟩
      obtain ⟨A', h1⟩ := el i A h1
      obtain ⟨B', h2⟩ := el j B h2
      exact s.uniq i j p _ _ h1 h2
    · rcases updL_get δ ls ys' i x h with ⟨no, q⟩ | ⟨j, q1, q2⟩
      · obtain ⟨v, h1, h2⟩ := s.val i x q
        refine ⟨v, h1, ?_⟩
        cases x with
        | d x => exact Rp.mono f1.b h2
        | o r' B =>
          have nP : ¬ Pd r' := fun ⟨j, A, z⟩ => by
            obtain ⟨_, l2, _⟩ := lk.at j
            obtain ⟨_, i', z1, z2⟩ := l2 r' A z
            have := s.uniq i' i r' A B z2 q
            subst this
            exact no j z1
          refine ⟨h2.1, ?_⟩
          have e2 : (fun a => w2 a = some r') = (fun a => w a = some r') := funext fun a => propext ⟨fun z => by
            rcases of_w2 z with z1 | ⟨_, _, z3⟩
            · rcases f1.rt a r' z1 with ⟨b, zb⟩ | zb
              · exact absurd (of_w0 zb).2 nP
              · exact absurd zb (B.root h2.2).1
            · exact z3, fun z => by
            have z0 := w0_no z nP
            obtain ⟨o, _, _, z1, _⟩ := stay z0 z
            show (match w1 a with | some p => some p | none => if w0 a = none then w a else none) = some r'
            rw [z1]
            show (if w0 a = none then w a else none) = some r'
            rw [if_pos z0]
            exact z⟩
          rw [e2]
          refine B.loc (fun a ha => ?_) (B.mono f1.b h2.2)
          obtain ⟨o, z1, z2, _⟩ := stay (w0_no ha nP) ha
          rw [z1, z2]
      · obtain ⟨p, A, e1, e2⟩ := (lk.at j).2.2 i q1
        obtain ⟨b1, _⟩ := (lk.at j).2.1 p A e1
        obtain ⟨v2, c1, c2⟩ := paired_get r b1
        have c2 : v2 = .ref p := c2
        obtain ⟨v3, d1, d2, _⟩ := s.val i _ e2
        have d2 : v3 = .ref p := d2
        obtain ⟨v1, a1, a2⟩ := s1.val j x q2
        rw [List.getElem?_map, c1] at a1
        have a3 : v2 = v1 := Option.some.inj (Option.some.inj a1)
        refine ⟨v3, d1, ?_⟩
        rw [← a3, c2, ← d2] at a2
        cases x with
        | d x => exact a2
        | o r' B =>
          refine ⟨a2.1, ?_⟩
          obtain ⟨A', _, pj⟩ := keep q1 q2
          have e3 : (fun a => w2 a = some r') = (fun a => w1 a = some r') := funext fun a => propext ⟨fun z => by
            rcases of_w2 z with z1 | ⟨_, z2, z3⟩
            · exact z1
            · have := w0_of z3 ⟨j, A', pj⟩
              rw [z2] at this
              exact (nomatch this), fun z => by
            show (match w1 a with | some p => some p | none => if w0 a = none then w a else none) = some r'
            rw [z]⟩
          rw [e3]
          exact a2.2
    · have z0 : w0 a = none := by
        cases e : w0 a with
        | none => rfl
        | some q =>
          have := (of_w0 e).1
          rw [h2] at this
          cases this
      obtain ⟨z1, z2, z3⟩ := f1.fr a o h1 z0 h3
      refine ⟨z1, ?_, z3⟩
      show (match w1 a with | some p => some p | none => if w0 a = none then w a else none) = none
      rw [z2]
      show (if w0 a = none then w a else none) = none
      rw [if_pos z0]
      exact h2
    · rcases of_w2 h with z | ⟨_, _, z⟩
      · rcases f1.rt a p z with ⟨b, zb⟩ | zb
        · exact .inl ⟨b, (of_w0 zb).1⟩
        · exact .inr zb
      · exact .inl ⟨a, z⟩
/-- the call of a def by what it does to data -/
def Cl (F : FS) (xs : List Vx) (δ : Dl) (P : PX) (X : XX) : Prop := ∃ ys ls, Lk δ xs ys ls ∧ Uq ys ∧ F ys (fun d ys' => P (.d d) (updL δ ls ys')) (fun C ys' => X C (updL δ ls ys'))
section
variable {K : PySem.W.Frag} {E : WX} {δ : Dl} {P : PX} {X : XX} {F : FS} {ta : TA}
theorem cl_run {w : Ow} {Hb H : Hp} {σ : St} {xs : List Vx} {vs : List V} {Q : VK} {E' : XK} (s : SD K w Hb H σ δ) (r : Paired (Rv K Hb) vs xs) (k : Cl F xs δ P X)
    (q : ∀ x δ' v w' Hb' H', P x δ' → SD K w' Hb' H' σ δ' → Rv K Hb' v x → Fm w Hb H w' Hb' H' → Q v H') (e : ∀ C δ' w' Hb' H', X C δ' → SD K w' Hb' H' σ δ' → Fm w Hb H w' Hb' H' → E' (.ref (He.ga K C)) none H') : SpOf K F vs H Q E' := by
  obtain ⟨ys, ls, lk, uq, f⟩ := k
  obtain ⟨w0, s0, bk⟩ := call_sd s r lk uq
  refine ⟨w0, Hb, ys, _, _, s0, f, fun d ys' v w1 Hb1 H1 k1 s1 r1 f1 => ?_, fun C ys' w1 Hb1 H1 k1 s1 f1 => ?_⟩
  · obtain ⟨w2, s2, f2⟩ := bk w1 Hb1 H1 ys' s1 f1
    exact q _ _ v w2 Hb1 H1 k1 s2 r1 f2
  · obtain ⟨w2, s2, f2⟩ := bk w1 Hb1 H1 ys' s1 f1
    exact e C _ w2 Hb1 H1 k1 s2 f2
/-- it raises nothing -/
theorem w_call {E' : XK} (h : WA K E ta δ (fun xs δ1 => Cl F xs δ1 P X0) X) : W K E (tCall (SpOf K F) [] E' ta) δ P X := fun w σ Hb H s Q q e => by
  refine h w σ Hb H s _ (fun xs δ1 vs w1 Hb1 H1 k s1 r1 f1 => ?_) e
  rw [List.append_nil]
  exact cl_run s1 r1 k (fun x δ' v w' Hb' H' p s' r' f' => q x δ' v w' Hb' H' p s' r' (f1.trans f')) fun _ _ _ _ _ z => z.elim
/-- what it raises goes on -/
theorem w_callX {E' : XK} (hE : ∀ c d σ H, E c d σ H → E' c d H) (h : WA K E ta δ (fun xs δ1 => Cl F xs δ1 P X) X) : W K E (tCall (SpOf K F) [] E' ta) δ P X := fun w σ Hb H s Q q e => by
  refine h w σ Hb H s _ (fun xs δ1 vs w1 Hb1 H1 k s1 r1 f1 => ?_) e
  rw [List.append_nil]
  exact cl_run s1 r1 k (fun x δ' v w' Hb' H' p s' r' f' => q x δ' v w' Hb' H' p s' r' (f1.trans f')) fun C δ' w' Hb' H' z s' f' => hE _ _ σ _ (e C δ' w' Hb' H' z s' (f1.trans f'))
theorem w_callS (h : WA K E ta δ (fun xs δ1 => Cl F xs δ1 P X) X) : W K E (tCallS (SpOf K F) (WE E) ta) δ P X := fun w σ Hb H s Q q e => by
  refine h w σ Hb H s _ (fun xs δ1 vs w1 Hb1 H1 k s1 r1 f1 => ?_) e
  exact cl_run s1 r1 k (fun x δ' v w' Hb' H' p s' r' f' => q x δ' v w' Hb' H' p s' r' (f1.trans f')) fun C δ' w' Hb' H' z s' f' => e C δ' w' Hb' H' z s' (f1.trans f')
end
/-! ### functions of data alone -/
abbrev FP := List Da → (Da → Prop) → (Str → Prop) → Prop
def PF (f : FP) : FS := fun ys R X => ∃ ds : List Da, ys = ds.map Dx.d ∧ f ds (fun d => R d (ds.map fun _ => none)) (fun C => X C (ds.map fun _ => none))
theorem lk_data (δ : Dl) : ∀ ds : List Da, Lk δ (ds.map Vx.d) (ds.map Dx.d) (ds.map fun _ => none)
  | [] => .nil
  | d :: ds => .d (lk_data δ ds)
theorem uq_data (ds : List Da) : Uq (ds.map Dx.d) := fun i j p A B h _ => by
  rw [List.getElem?_map] at h
  cases e : ds[i]? with
  | none => rw [e] at h; cases h
  | some d => rw [e] at h; cases h
theorem updL_data (δ : Dl) : ∀ (ds : List Da) (ys : Dl), updL δ (ds.map fun _ => (none : Option Nat)) ys = δ
  | [], _ => rfl
  | d :: ds, ys => updL_data δ ds ys.tail
theorem cl_data {f : FP} {ds : List Da} {δ : Dl} {P : PX} {X : XX} (h : f ds (fun d => P (.d d) δ) (fun C => X C δ)) : Cl (PF f) (ds.map Vx.d) δ P X := by
  refine ⟨_, _, lk_data δ ds, uq_data ds, ds, rfl, ?_⟩
  simp only [updL_data]
  exact h
theorem wa_data {K : PySem.W.Frag} {E : WX} {δ : Dl} {X : XX} {ta : TA} {PA' : List Vx → Dl → Prop} (h : WD K E ta δ (fun ds δ1 => PA' (ds.map Vx.d) δ1) X) : WA K E ta δ PA' X := fun w σ Hb H s Q q e =>
  h w σ Hb H s Q (fun ds δ' vs w' Hb' H' k s' r' f' => q _ δ' vs w' Hb' H' k s' (by
    clear q k f' e s
    induction r' using RpAll.rec (motive_1 := fun _ _ _ => True) with
    | nil => exact .nil
    | cons r t _ ih => exact .cons r ih
    | _ => trivial) f') e
section
variable {K : PySem.W.Frag} {E : WX} {δ : Dl} {P : PX} {X : XX} {f : FP} {ta : TA}
theorem w_fn {E' : XK} (h : WD K E ta δ (fun ds δ1 => f ds (fun d => P (.d d) δ1) (fun _ => False)) X) : W K E (tCall (SpOf K (PF f)) [] E' ta) δ P X :=
  w_call (wa_data fun w σ Hb H s Q q e => h w σ Hb H s Q (fun ds δ' vs w' Hb' H' k => q ds δ' vs w' Hb' H' (cl_data k)) e)
theorem w_fnX {E' : XK} (hE : ∀ c d σ H, E c d σ H → E' c d H) (h : WD K E ta δ (fun ds δ1 => f ds (fun d => P (.d d) δ1) (fun C => X C δ1)) X) : W K E (tCall (SpOf K (PF f)) [] E' ta) δ P X :=
  w_callX hE (wa_data fun w σ Hb H s Q q e => h w σ Hb H s Q (fun ds δ' vs w' Hb' H' k => q ds δ' vs w' Hb' H' (cl_data k)) e)
theorem w_fnS (h : WD K E ta δ (fun ds δ1 => f ds (fun d => P (.d d) δ1) (fun C => X C δ1)) X) : W K E (tCallS (SpOf K (PF f)) (WE E) ta) δ P X :=
  w_callS (wa_data fun w σ Hb H s Q q e => h w σ Hb H s Q (fun ds δ' vs w' Hb' H' k => q ds δ' vs w' Hb' H' (cl_data k)) e)
end
theorem outs_data : ∀ (ds : List Da) (δ : Dl), outs (ds.map Dx.d) δ = ds.map fun _ => none
  | [], δ => by cases δ <;> rfl
  | d :: ds, [] => by simp [outs, outs_data ds []]
  | d :: ds, _ :: δ => by simp [outs, outs_data ds δ]
theorem keepP_data : ∀ (ds : List Da) (δ : Dl), keepP (ds.map Dx.d) δ
  | [], δ => by cases δ <;> trivial
  | d :: ds, [] => trivial
  | d :: ds, _ :: δ => keepP_data ds δ
/-- the body of a def of data alone -/
theorem bodyP {K : PySem.W.Frag} {f : FP} {ts : XK → TS} {N : List Str} {vs : List V} {H : Hp} {Q : VK} {E : XK} (n : Nat) (m : Nat) (hN : N.length = n + m) (hlen : ∀ ds R X, f ds R X → ds.length = n)
    (hT : ∀ ds R X, f ds R X → T K (fun c d _ H => E c d H) (ts E) (ds.map (fun d => some (Dx.d d)) ++ List.replicate m none) (fun _ => R .non) (fun x δ' => RetD K n x δ' R) (fun C _ => X C))
    (h : SpOf K (PF f) vs H Q E) : ts E { nx := fun _ H' => Q .non H', rt := Q } (L2.start N vs) H := by
  refine body (F := PF f) n m hN (fun ys R X ⟨ds, e, k⟩ => by rw [e, List.length_map]; exact hlen ds _ _ k) (fun ys R X ⟨ds, e, k⟩ => ?_) h
  subst e
  have t := hT ds _ _ k
  rw [List.map_map]
  intro w σ Hb H D s n1 r1 x1
  refine t w σ Hb H D s (fun δ' w' σ' Hb' H' p => n1 δ' w' σ' Hb' H' ⟨by rw [outs_data]; exact p, keepP_data ds δ'⟩) (fun x δ' v w' σ' Hb' H' p => r1 x δ' v w' σ' Hb' H' ⟨by rw [outs_data]; exact p, keepP_data ds δ'⟩)
    fun σ' C δ' w' Hb' H' p => x1 σ' C δ' w' Hb' H' ⟨by rw [outs_data]; exact p, keepP_data ds δ'⟩
theorem pf_len {f : FP} {n : Nat} (h : ∀ ds R X, f ds R X → ds.length = n) : ∀ ys R X, PF f ys R X → ys.length = n := fun ys R X ⟨ds, e, k⟩ => by
  rw [e, List.length_map]
  exact h ds _ _ k
end Cr

namespace Cr
open PySem L2

/-! ### the readings that the layer leaves without a name -/
def rLen (K : PySem.W.Frag) : List V → Hp → VK → Prop := fun xs H Q => ∃ x n, xs = [x] ∧ LenV K x H n ∧ Q (.int (n : Nat)) H
def rAddStr : R2 := fun x y H Q => ∃ i j, x = .str i ∧ y = .str j ∧ i.length + j.length ≤ sizeLine ∧ Q (.str (i ++ j)) H
def rInSign : R2 := fun x y H Q => ∃ (c : Nat) (z : Str), x = .str ⟨#[c]⟩ ∧ y = .str z ∧ Q (.bl (decide (c ∈ z.cps.toList))) H
def rIsNone : R2 := fun x y H Q => y = .non ∧ Q (.bl (decide (x = .non))) H
def rNotNone : R2 := fun x y H Q => y = .non ∧ Q (.bl (!decide (x = .non))) H
def rAbs : List V → Hp → VK → Prop := fun xs H Q => ∃ i, xs = [.int i] ∧ Q (.int (if i < 0 then -i else i)) H
def rMx2 : List V → Hp → VK → Prop := fun xs H Q => ∃ i j, xs = [.int i, .int j] ∧ Q (.int (if j > i then j else i)) H
def rMn2 : List V → Hp → VK → Prop := fun xs H Q => ∃ i j, xs = [.int i, .int j] ∧ Q (.int (if j < i then j else i)) H
def rInt1 : List V → Hp → VK → Prop := fun xs H Q => (∃ i, xs = [.int i] ∧ Q (.int i) H) ∨ ∃ k, xs = [.bl k] ∧ Q (.int (if k then 1 else 0)) H
def rOrd : List V → Hp → VK → Prop := fun xs H Q => ∃ x : Str, xs = [.str x] ∧ x.length = 1 ∧ Q (.int (x.cps.getD 0 0 : Nat)) H
def rListOf (K : PySem.W.Frag) : List V → Hp → VK → Prop := fun xs H Q => ∃ p ys, xs = [.ref p] ∧ (SqL K H p ys ∨ SqT K H p ys) ∧ ∀ l, H l = none → Q (.ref l) (upd H l (.lst ys))
def rSplit : V → List V → Hp → VK → Prop := fun x xs H Q => ∃ a b : Str, x = .str a ∧ xs = [.str b] ∧ (b.length == 0) = false ∧ a.length + 2 ≤ sizeLine ∧ rNewStrs (Txt.split a b) H Q
def rJoin (K : PySem.W.Frag) : V → List V → Hp → VK → Prop := fun x xs H Q => ∃ a p, ∃ ys : List Str, x = .str a ∧ xs = [.ref p] ∧ (SqL K H p (ys.map V.str) ∨ SqT K H p (ys.map V.str)) ∧ (ys.map (·.length)).sum + ys.length * a.length ≤ 16777216 ∧ Q (.str (Txt.join a ys)) H
def rFind1 : V → List V → Hp → VK → Prop := fun x xs H Q => ∃ a b : Str, x = .str a ∧ xs = [.str b] ∧ Q (.int (Txt.find a b)) H
def rFind2 : V → List V → Hp → VK → Prop := fun x xs H Q => ∃ (a b : Str) (i : Int), x = .str a ∧ xs = [.str b, .int i] ∧ Q (.int (Txt.find3 a b i)) H
def rRfind1 : V → List V → Hp → VK → Prop := fun x xs H Q => ∃ a b : Str, x = .str a ∧ xs = [.str b] ∧ Q (.int (Txt.rfind a b)) H
def rRfind3 : V → List V → Hp → VK → Prop := fun x xs H Q => ∃ (a b : Str) (i j : Int), x = .str a ∧ xs = [.str b, .int i, .int j] ∧ Q (.int (Txt.rfindIn a b i j)) H
def rRstrip : V → List V → Hp → VK → Prop := fun x xs H Q => ∃ a b : Str, x = .str a ∧ xs = [.str b] ∧ a.length ≤ sizeLine ∧ Q (.str (Txt.rstripChars a b)) H
def rStrip : V → List V → Hp → VK → Prop := fun x xs H Q => ∃ a b : Str, x = .str a ∧ xs = [.str b] ∧ a.length ≤ sizeLine ∧ Q (.str (Txt.stripChars a b)) H
def rIsalpha : V → List V → Hp → VK → Prop := fun x xs H Q => ∃ a : Str, x = .str a ∧ xs = [] ∧ True ∧ Q (.bl (Txt.isalpha a)) H
def rLeStr : R2 := fun x y H Q => ∃ i j, x = .str i ∧ y = .str j ∧ Q (.bl (!decide (j.cps.toList < i.cps.toList))) H
def tTruth (K : PySem.W.Frag) (ta : TE) : TT := fun σ H Q => ta σ H fun x H' => ∃ k, TruV K x H' k ∧ Q k H'

def cut {α : Type} (l : List α) (lo hi : Option Int) : List α := (l.drop (HT.sIx l.length 0 lo)).take (HT.sIx l.length l.length hi - HT.sIx l.length 0 lo)
theorem cutS_S (l : List Nat) (lo hi : Option Int) : cutS (S l) lo hi = S (cut l lo hi) := by
  unfold cutS cut
  rw [S_tl, S_len]
  rfl
theorem cutV_cut (xs : List V) (lo hi : Option Int) : cutV xs lo hi = cut xs lo hi := rfl
theorem cut_nat {α : Type} (l : List α) (i j : Nat) : cut l (some (i : Int)) (some (j : Int)) = (l.drop i).take (j - i) := by
  unfold cut
  rw [HT.sIx_nat, HT.sIx_nat]
  by_cases h : i ≤ l.length
  · rw [Nat.min_eq_left h]
    by_cases h2 : j ≤ l.length
    · rw [Nat.min_eq_left h2]
    · rw [Nat.min_eq_right (by omega)]
      rw [List.take_of_length_le (by simp), List.take_of_length_le (by simp; omega)]
  · rw [List.drop_eq_nil_of_le (by omega), List.drop_eq_nil_of_le (by omega)]
    simp
theorem cut_from {α : Type} (l : List α) (i : Nat) : cut l (some (i : Int)) none = l.drop i := by
  unfold cut
  rw [HT.sIx_nat, HT.sIx_none]
  by_cases h : i ≤ l.length
  · rw [Nat.min_eq_left h, List.take_of_length_le (by simp)]
  · rw [List.drop_eq_nil_of_le (by omega), List.drop_eq_nil_of_le (by omega)]
    simp
theorem cut_to {α : Type} (l : List α) (j : Nat) : cut l none (some (j : Int)) = l.take j := by
  unfold cut
  rw [HT.sIx_nat, HT.sIx_none]
  simp
theorem RpAll.cut {K : PySem.W.Frag} {H : Hp} {vs : List V} {ds : List Da} (r : RpAll K H vs ds) (lo hi : Option Int) : RpAll K H (Cr.cut vs lo hi) (Cr.cut ds lo hi) := by
  unfold Cr.cut
  rw [r.length]
  exact (r.drop _).take _

section
variable {K : PySem.W.Frag} {E : WX} {δ : Dl} {P : PX} {X : XX} {ta tb te tc : TE} {N : Dl → Prop} {R : PX}
/-- a built-in of data: the result is data, the heap as it is -/
theorem cd_pure {r : List V → Hp → VK → Prop} {xs : List Vx} {z : Da} (hr : ∀ (w : Ow) (σ : St) (Hb H : Hp) (vs : List V), SD K w Hb H σ δ → Paired (Rv K Hb) vs xs → ∀ Q : VK, (∀ t, Rp K Hb t z → Q t H) → r vs H Q) (k : P (.d z) δ) : CD K E r xs δ P X :=
  fun w σ Hb H vs s rv Q q _ => hr w σ Hb H vs s rv Q fun t ht => q _ _ t w Hb H k s ht (Fm.refl _ _ _)
theorem cd_lenS {l : List Nat} (hl : l.length ≤ 16000000) (k : P (.d (.int l.length)) δ) : CD K E (rLen K) [.d (.str l)] δ P X := cd_pure (fun w σ Hb H vs s rv Q q => by
  cases rv with
  | cons r1 r2 =>
    cases r2
    cases r1
    exact ⟨_, l.length, rfl, ⟨by rw [S_len]; exact sz hl, (S_len l).symm⟩, q _ (.int _)⟩) k
theorem cd_lenL {ds : List Da} (k : P (.d (.int ds.length)) δ) : CD K E (rLen K) [.d (.lst ds)] δ P X := cd_pure (fun w σ Hb H vs s rv Q q => by
  cases rv with
  | cons r1 r2 =>
    cases r2
    cases r1 with
    | @lst a xs _ hs ha => exact ⟨_, ds.length, rfl, .inl ⟨xs, (SqL.of (s.sub _ _ hs)), ha.length.symm⟩, q _ (.int _)⟩) k
theorem cd_lenT {ds : List Da} (k : P (.d (.int ds.length)) δ) : CD K E (rLen K) [.d (.tup ds)] δ P X := cd_pure (fun w σ Hb H vs s rv Q q => by
  cases rv with
  | cons r1 r2 =>
    cases r2
    cases r1 with
    | @tup a xs _ hs ha => exact ⟨_, ds.length, rfl, .inr ⟨xs, same_t s.sub hs, ha.length.symm⟩, q _ (.int _)⟩) k
theorem cd_lenO {ds : List Da} {i : Nat} {p : Addr} (h : δ[i]? = some (some (.o p (olst K ds)))) (k : P (.d (.int ds.length)) δ) : CD K E (rLen K) [.a p] δ P X := cd_pure (fun w σ Hb H vs s rv Q q => by
  cases rv with
  | cons r1 r2 =>
    cases r2
    obtain ⟨v, _, _, xs, h1, h2, _⟩ := s.val i _ h
    have e : _ = V.ref p := r1
    subst e
    exact ⟨_, ds.length, rfl, .inl ⟨xs, .inl (.inl h1), h2.length.symm⟩, q _ (.int _)⟩) k
theorem cd_abs {i : Int} (k : P (.d (.int (if i < 0 then -i else i))) δ) : CD K E rAbs [.d (.int i)] δ P X := cd_pure (fun w σ Hb H vs s rv Q q => by
  cases rv with
  | cons r1 r2 => cases r2; cases r1; exact ⟨_, rfl, q _ (.int _)⟩) k
theorem cd_max2 {i j : Int} (k : P (.d (.int (if j > i then j else i))) δ) : CD K E rMx2 [.d (.int i), .d (.int j)] δ P X := cd_pure (fun w σ Hb H vs s rv Q q => by
  cases rv with
  | cons r1 r2 =>
    cases r2 with
    | cons r2 r3 => cases r3; cases r1; cases r2; exact ⟨_, _, rfl, q _ (.int _)⟩) k
theorem cd_min2 {i j : Int} (k : P (.d (.int (if j < i then j else i))) δ) : CD K E rMn2 [.d (.int i), .d (.int j)] δ P X := cd_pure (fun w σ Hb H vs s rv Q q => by
  cases rv with
  | cons r1 r2 =>
    cases r2 with
    | cons r2 r3 => cases r3; cases r1; cases r2; exact ⟨_, _, rfl, q _ (.int _)⟩) k
theorem cd_intB {b : Bool} (k : P (.d (.int (if b then 1 else 0))) δ) : CD K E rInt1 [.d (.bl b)] δ P X := cd_pure (fun w σ Hb H vs s rv Q q => by
  cases rv with
  | cons r1 r2 => cases r2; cases r1; exact .inr ⟨_, rfl, q _ (.int _)⟩) k
theorem cd_ord {c : Nat} (k : P (.d (.int c)) δ) : CD K E rOrd [.d (.str [c])] δ P X := cd_pure (fun w σ Hb H vs s rv Q q => by
  cases rv with
  | cons r1 r2 => cases r2; cases r1; exact ⟨S [c], rfl, by rw [S_len]; rfl, q _ (.int _)⟩) k
theorem cd_sum {ns : List Int} (k : P (.d (.int ns.sum)) δ) : CD K E (rSum K) [.d (.lst (ns.map Da.int))] δ P X := cd_pure (fun w σ Hb H vs s rv Q q => by
  cases rv with
  | cons r1 r2 =>
    cases r2
    cases r1 with
    | @lst a xs _ hs ha =>
      have e := ha.ints
      subst e
      exact ⟨a, ns, rfl, (SqL.of (s.sub _ _ hs)), q _ (.int _)⟩) k
theorem cd_all {bs : List Bool} (k : P (.d (.bl (bs.all id))) δ) : CD K E (rAll K) [.d (.lst (bs.map Da.bl))] δ P X := cd_pure (fun w σ Hb H vs s rv Q q => by
  cases rv with
  | cons r1 r2 =>
    cases r2
    cases r1 with
    | @lst a xs _ hs ha =>
      have e := ha.bls
      subst e
      exact ⟨a, bs, rfl, (SqL.of (s.sub _ _ hs)), q _ (.bl _)⟩) k
theorem cd_max {ns : List Int} {m : Int} (hm : m ∈ ns) (hx : ∀ y ∈ ns, y ≤ m) (k : P (.d (.int m)) δ) : CD K E (rMax K) [.d (.lst (ns.map Da.int))] δ P X := cd_pure (z := .int m) (fun w σ Hb H vs s rv Q q => by
  cases rv with
  | cons r1 r2 =>
    cases r2
    cases r1 with
    | @lst a xs _ hs ha =>
      have e := ha.ints
      subst e
      refine ⟨a, ns, rfl, (SqL.of (s.sub _ _ hs)), List.length_pos_of_mem hm, fun m' h1 h2 => ?_⟩
      have : m' = m := by
        have a1 := hx m' h1
        have a2 := h2 m hm
        omega
      rw [this]
      exact q _ (.int _)) k
theorem cd_min {ns : List Int} {m : Int} (hm : m ∈ ns) (hx : ∀ y ∈ ns, m ≤ y) (k : P (.d (.int m)) δ) : CD K E (rMin K) [.d (.lst (ns.map Da.int))] δ P X := cd_pure (z := .int m) (fun w σ Hb H vs s rv Q q => by
  cases rv with
  | cons r1 r2 =>
    cases r2
    cases r1 with
    | @lst a xs _ hs ha =>
      have e := ha.ints
      subst e
      refine ⟨a, ns, rfl, (SqL.of (s.sub _ _ hs)), List.length_pos_of_mem hm, fun m' h1 h2 => ?_⟩
      have : m' = m := by
        have a1 := hx m' h1
        have a2 := h2 m hm
        omega
      rw [this]
      exact q _ (.int _)) k
theorem cd_list {ds : List Da} (k : P (.d (.lst ds)) δ) : CD K E (rListOf K) [.d (.lst ds)] δ P X := fun w σ Hb H vs s rv Q q e => by
  cases rv with
  | cons r1 r2 =>
    cases r2
    cases r1 with
    | @lst a xs _ hs ha =>
      refine ⟨a, xs, rfl, .inl ((SqL.of (s.sub _ _ hs))), fun l hl => ?_⟩
      obtain ⟨s2, f2⟩ := s.new (o := .lst xs) hl
      exact q _ δ _ w _ _ k s2 (.lst upd_same (ha.mono f2.b)) f2

/-! ### two values, more -/
theorem rd_addS {a b : List Nat} (hl : a.length + b.length ≤ 16000000) (k : P (.d (.str (a ++ b))) δ) : RD K E rAddStr (.d (.str a)) (.d (.str b)) δ P X := rd_pure (fun Hb H v u _ r1 r2 Q q => by
  cases r1
  cases r2
  refine ⟨S a, S b, rfl, rfl, by rw [S_len, S_len]; exact sz hl, ?_⟩
  rw [S_app]
  exact q _ (.str _)) k
theorem rd_ixS {l : List Nat} {i : Int} {c : Nat} (hl : l.length ≤ 16000000) (h : atI l i = some c) (k : P (.d (.str [c])) δ) : RD K E rIxS (.d (.str l)) (.d (.int i)) δ P X := rd_pure (z := .str [c]) (fun Hb H v u _ r1 r2 Q q => by
  cases r1
  cases r2
  exact ⟨S l, i, c, rfl, rfl, by rw [S_len]; exact sz hl, h, q _ (.str [c])⟩) k
theorem atI_all {xs : List V} {ds : List Da} {H : Hp} (r : RpAll K H xs ds) {i : Int} {d : Da} (h : atI ds i = some d) : ∃ v, atI xs i = some v ∧ Rp K H v d := by
  unfold atI at h ⊢
  rw [r.length]
  cases e : ixN ds.length i with
  | none => rw [e] at h; cases h
  | some j =>
    rw [e] at h
    exact r.get h
theorem rd_ixL {ds : List Da} {i : Int} {d : Da} (h : atI ds i = some d) (k : P (.d d) δ) : RD K E (rIxL K) (.d (.lst ds)) (.d (.int i)) δ P X := rd_pure (fun Hb H v u sb r1 r2 Q q => by
  cases r2
  cases r1 with
  | @lst a xs _ hs ha =>
    obtain ⟨v, h1, h2⟩ := atI_all ha h
    exact ⟨a, xs, i, v, rfl, rfl, (SqL.of (sb _ _ hs)), h1, q _ h2⟩) k
theorem rd_ixT {ds : List Da} {i : Int} {d : Da} (h : atI ds i = some d) (k : P (.d d) δ) : RD K E (rIxT K) (.d (.tup ds)) (.d (.int i)) δ P X := rd_pure (fun Hb H v u sb r1 r2 Q q => by
  cases r2
  cases r1 with
  | @tup a xs _ hs ha =>
    obtain ⟨v, h1, h2⟩ := atI_all ha h
    exact ⟨a, xs, i, v, rfl, rfl, same_t sb hs, h1, q _ h2⟩) k
theorem rd_ixO {ds : List Da} {n : Nat} {p : Addr} {i : Int} {d : Da} (ho : δ[n]? = some (some (.o p (olst K ds)))) (h : atI ds i = some d) (k : P (.d d) δ) : RD K E (rIxL K) (.a p) (.d (.int i)) δ P X := fun w σ Hb H v u s r1 r2 Q q _ => by
  cases r2
  obtain ⟨v', _, _, xs, h1, h2, _⟩ := s.val n _ ho
  have e : v = V.ref p := r1
  subst e
  obtain ⟨v, k1, k2⟩ := atI_all h2 h
  exact ⟨p, xs, i, v, rfl, rfl, .inl (.inl h1), k1, q _ _ _ w Hb H k s k2 (Fm.refl _ _ _)⟩
theorem rd_inSign {c : Nat} {l : List Nat} (k : P (.d (.bl (decide (c ∈ l)))) δ) : RD K E rInSign (.d (.str [c])) (.d (.str l)) δ P X := rd_pure (fun Hb H v u _ r1 r2 Q q => by
  cases r1
  cases r2
  exact ⟨c, S l, rfl, rfl, q _ (.bl _)⟩) k
def isNon : Da → Bool
  | .non => true
  | _ => false
theorem rp_non {H : Hp} {v : V} {d : Da} (r : Rp K H v d) : decide (v = .non) = isNon d := by
  cases r <;> simp [isNon]
theorem rd_isN {d : Da} (k : P (.d (.bl (isNon d))) δ) : RD K E rIsNone (.d d) (.d .non) δ P X := rd_pure (fun Hb H v u _ r1 r2 Q q => by
  cases r2
  refine ⟨rfl, ?_⟩
  rw [rp_non r1]
  exact q _ (.bl _)) k
theorem rd_notN {d : Da} (k : P (.d (.bl (!isNon d))) δ) : RD K E rNotNone (.d d) (.d .non) δ P X := rd_pure (fun Hb H v u _ r1 r2 Q q => by
  cases r2
  refine ⟨rfl, ?_⟩
  rw [rp_non r1]
  exact q _ (.bl _)) k
theorem rd_cat {xs ys : List Da} (hl : xs.length + ys.length ≤ 16000000) (k : P (.d (.lst (xs ++ ys))) δ) : RD K E rCat (.d (.lst xs)) (.d (.lst ys)) δ P X := fun w σ Hb H v u s r1 r2 Q q _ => by
  cases r1 with
  | @lst a us _ h1 h2 =>
    cases r2 with
    | @lst b ws _ h3 h4 =>
      refine ⟨a, b, us, ws, rfl, rfl, s.sub _ _ h1, s.sub _ _ h3, by rw [h2.length, h4.length]; exact sz hl, fun p hp => ?_⟩
      obtain ⟨s2, f2⟩ := s.new (o := .lst (us ++ ws)) hp
      exact q _ δ _ w _ _ k s2 (.lst upd_same ((h2.append h4).mono f2.b)) f2
theorem RpAll.rep {H : Hp} {vs : List V} {ds : List Da} (r : RpAll K H vs ds) : ∀ n : Nat, RpAll K H (List.replicate n vs).flatten (List.replicate n ds).flatten
  | 0 => .nil
  | n + 1 => by
    rw [List.replicate_succ, List.replicate_succ, List.flatten_cons, List.flatten_cons]
    exact r.append (RpAll.rep r n)
theorem rd_rep {xs : List Da} {n : Int} (h0 : 0 ≤ n) (hn : n ≤ 100) (hl : xs.length ≤ 100) (k : P (.d (.lst (List.replicate n.toNat xs).flatten)) δ) : RD K E rRep (.d (.lst xs)) (.d (.int n)) δ P X := fun w σ Hb H v u s r1 r2 Q q _ => by
  cases r2
  cases r1 with
  | @lst a us _ h1 h2 =>
    refine ⟨a, n, us, rfl, rfl, s.sub _ _ h1, by omega, by omega, ?_, fun p hp => ?_⟩
    · rw [h2.length]
      have : xs.length * n.toNat ≤ 100 * 100 := Nat.mul_le_mul hl (by omega)
      exact sz (by omega)
    · obtain ⟨s2, f2⟩ := s.new (o := .lst (List.replicate n.toNat us).flatten) hp
      exact q _ δ _ w _ _ k s2 (.lst upd_same ((h2.rep n.toNat).mono f2.b)) f2
/-- the script -/
theorem cd_lenR {ns : List Int} (k : P (.d (.int ns.length)) δ) : CD K E (rLen K) [.d (.scr ns)] δ P X := cd_pure (fun w σ Hb H vs s rv Q q => by
  cases rv with
  | cons r1 r2 =>
    cases r2
    cases r1 with
    | @scr a _ hs => exact ⟨_, ns.length, rfl, .inl ⟨_, s.sub.seq hs, by simp⟩, q _ (.int _)⟩) k
theorem rd_ixR {ns : List Int} {i : Int} {d : Int} (h : atI ns i = some d) (k : P (.d (.int d)) δ) : RD K E (rIxL K) (.d (.scr ns)) (.d (.int i)) δ P X := rd_pure (z := .int d) (fun Hb H v u sb r1 r2 Q q => by
  cases r2
  cases r1 with
  | @scr a _ hs =>
    have h2 : atI (ns.map V.int) i = some (.int d) := by
      unfold atI at h ⊢
      rw [List.length_map]
      cases e : ixN ns.length i with
      | none => rw [e] at h; cases h
      | some j =>
        rw [e] at h
        have h : ns[j]? = some d := h
        show (ns.map V.int)[j]? = some (.int d)
        rw [List.getElem?_map, h]
        rfl
    exact ⟨a, _, i, _, rfl, rfl, sb.seq hs, h2, q _ (.int _)⟩) k
theorem wt_truScr {PT' : Bool → Dl → Prop} (h : W K E te δ (fun x δ1 => ∃ ns, x = .d (.scr ns) ∧ PT' (!ns.isEmpty) δ1) X) : WT K E (tTruth K te) δ PT' X := fun w σ Hb H s Q q e => by
  refine h w σ Hb H s _ (fun x δ1 v w1 Hb1 H1 ⟨ns, el, k⟩ s1 r1 f1 => ?_) e
  subst el
  cases r1 with
  | @scr a _ hs =>
    refine ⟨!ns.isEmpty, .inl ⟨_, s1.sub.seq hs, ?_⟩, q _ δ1 w1 Hb1 H1 k s1 f1⟩
    cases ns <;> rfl

/-! ### slices -/
def WO (K : PySem.W.Frag) (E : WX) (to : TO) (δ : Dl) (PO' : Option Int → Dl → Prop) (X : XX) : Prop :=
  ∀ (w : Ow) (σ : St) (Hb H : Hp), SD K w Hb H σ δ → ∀ Q : Option Int → Hp → Prop,
    (∀ o δ' w' Hb' H', PO' o δ' → SD K w' Hb' H' σ δ' → Fm w Hb H w' Hb' H' → Q o H') → XC K E X w σ Hb H → to σ H Q
theorem wo_none {PO' : Option Int → Dl → Prop} (k : PO' none δ) : WO K E tNoPart δ PO' X := fun w σ Hb H s Q q _ => q none δ w Hb H k s (Fm.refl _ _ _)
theorem wo_some {PO' : Option Int → Dl → Prop} (h : W K E te δ (fun x δ1 => ∃ i, x = .d (.int i) ∧ PO' (some i) δ1) X) : WO K E (tPart te) δ PO' X := fun w σ Hb H s Q q e => by
  refine h w σ Hb H s _ (fun x δ1 v w1 Hb1 H1 ⟨i, ei, k⟩ s1 r1 f1 => ?_) e
  subst ei
  cases r1
  exact ⟨i, rfl, q _ δ1 w1 Hb1 H1 k s1 f1⟩
theorem w_slS {tl th : TO} (h : W K E te δ (fun x δ1 => ∃ l, x = .d (.str l) ∧ l.length ≤ 16000000 ∧ WO K E tl δ1 (fun lo δ2 => WO K E th δ2 (fun hi δ3 => P (.d (.str (cut l lo hi))) δ3) X) X) X) : W K E (tSl rSlS te tl th) δ P X := fun w σ Hb H s Q q e => by
  refine h w σ Hb H s _ (fun x δ1 v w1 Hb1 H1 ⟨l, el, hl, k⟩ s1 r1 f1 => ?_) e
  subst el
  cases r1
  refine k w1 σ Hb1 H1 s1 _ (fun lo δ2 w2 Hb2 H2 k2 s2 f2 => ?_) (e.on f1)
  refine k2 w2 σ Hb2 H2 s2 _ (fun hi δ3 w3 Hb3 H3 k3 s3 f3 => ?_) (e.on (f1.trans f2))
  refine ⟨S l, rfl, by rw [S_len]; exact sz hl, ?_⟩
  rw [cutS_S]
  exact q _ δ3 _ w3 Hb3 H3 k3 s3 (.str _) ((f1.trans f2).trans f3)
theorem w_slL {tl th : TO} (h : W K E te δ (fun x δ1 => ∃ ds, x = .d (.lst ds) ∧ WO K E tl δ1 (fun lo δ2 => WO K E th δ2 (fun hi δ3 => P (.d (.lst (cut ds lo hi))) δ3) X) X) X) : W K E (tSl (rSlL K) te tl th) δ P X := fun w σ Hb H s Q q e => by
  refine h w σ Hb H s _ (fun x δ1 v w1 Hb1 H1 ⟨ds, el, k⟩ s1 r1 f1 => ?_) e
  subst el
  cases r1 with
  | @lst a xs _ hs ha =>
    refine k w1 σ Hb1 H1 s1 _ (fun lo δ2 w2 Hb2 H2 k2 s2 f2 => ?_) (e.on f1)
    refine k2 w2 σ Hb2 H2 s2 _ (fun hi δ3 w3 Hb3 H3 k3 s3 f3 => ?_) (e.on (f1.trans f2))
    refine ⟨a, xs, rfl, (SqL.of (((f2.trans f3).b.trans s3.sub) _ _ hs)), fun p hp => ?_⟩
    obtain ⟨s4, f4⟩ := s3.new (o := .lst (cutV xs lo hi)) hp
    exact q _ δ3 _ w3 _ _ k3 s4 (.lst upd_same ((ha.cut lo hi).mono ((f2.trans f3).trans f4).b)) (((f1.trans f2).trans f3).trans f4)

/-! ### methods of texts, lists -/
/-- a method of a text, by data alone -/
theorem w_bmS {r : V → List V → Hp → VK → Prop} {ta' : TA} (h : W K E te δ (fun x δ1 => ∃ l, x = .d (.str l) ∧ WD K E ta' δ1 (fun ds δ2 => ∀ (w : Ow) (σ : St) (Hb H : Hp) (vs : List V), SD K w Hb H σ δ2 → RpAll K Hb vs ds → ∀ Q : VK,
      (∀ x δ' v w' Hb' H', P x δ' → SD K w' Hb' H' σ δ' → Rv K Hb' v x → Fm w Hb H w' Hb' H' → Q v H') → r (.str (S l)) vs H Q) X) X) : W K E (tBM K "str" r te ta') δ P X := fun w σ Hb H s Q q e => by
  refine h w σ Hb H s _ (fun x δ1 v w1 Hb1 H1 ⟨l, el, k⟩ s1 r1 f1 => ?_) e
  subst el
  cases r1
  refine ⟨rfl, k w1 σ Hb1 H1 s1 _ (fun ds δ2 vs w2 Hb2 H2 k2 s2 r2 f2 => ?_) (e.on f1)⟩
  exact k2 w2 σ Hb2 H2 vs s2 r2 Q fun x δ' v w' Hb' H' p s' r' f' => q x δ' v w' Hb' H' p s' r' ((f1.trans f2).trans f')
theorem w_find1 (h : W K E te δ (fun x δ1 => ∃ l, x = .d (.str l) ∧ W K E ta δ1 (fun y δ2 => ∃ m, y = .d (.str m) ∧ P (.d (.int (Txt.find (S l) (S m)))) δ2) X) X) : W K E (tBM K "str" rFind1 te (tCons ta tNil)) δ P X :=
  w_bmS (h.imp fun x δ1 ⟨l, el, k⟩ => ⟨l, el, wd_cons (k.imp fun y δ2 ⟨m, em, k2⟩ => ⟨.str m, em, wd_nil fun w σ Hb H vs s r Q q => by
    cases r with
    | cons r1 r2 => cases r2; cases r1; exact ⟨S l, S m, rfl, rfl, q _ δ2 _ w Hb H k2 s (.int _) (Fm.refl _ _ _)⟩⟩)⟩)
theorem w_rfind1 (h : W K E te δ (fun x δ1 => ∃ l, x = .d (.str l) ∧ W K E ta δ1 (fun y δ2 => ∃ m, y = .d (.str m) ∧ P (.d (.int (Txt.rfind (S l) (S m)))) δ2) X) X) : W K E (tBM K "str" rRfind1 te (tCons ta tNil)) δ P X :=
  w_bmS (h.imp fun x δ1 ⟨l, el, k⟩ => ⟨l, el, wd_cons (k.imp fun y δ2 ⟨m, em, k2⟩ => ⟨.str m, em, wd_nil fun w σ Hb H vs s r Q q => by
    cases r with
    | cons r1 r2 => cases r2; cases r1; exact ⟨S l, S m, rfl, rfl, q _ δ2 _ w Hb H k2 s (.int _) (Fm.refl _ _ _)⟩⟩)⟩)
theorem w_find2 (h : W K E te δ (fun x δ1 => ∃ l, x = .d (.str l) ∧ W K E ta δ1 (fun y δ2 => ∃ m, y = .d (.str m) ∧ W K E tb δ2 (fun z δ3 => ∃ i, z = .d (.int i) ∧ P (.d (.int (Txt.find3 (S l) (S m) i))) δ3) X) X) X) : W K E (tBM K "str" rFind2 te (tCons ta (tCons tb tNil))) δ P X :=
  w_bmS (h.imp fun x δ1 ⟨l, el, k⟩ => ⟨l, el, wd_cons (k.imp fun y δ2 ⟨m, em, k2⟩ => ⟨.str m, em, wd_cons (k2.imp fun z δ3 ⟨i, ei, k3⟩ => ⟨.int i, ei, wd_nil fun w σ Hb H vs s r Q q => by
    cases r with
    | cons r1 r2 =>
      cases r2 with
      | cons r2 r3 => cases r3; cases r1; cases r2; exact ⟨S l, S m, i, rfl, rfl, q _ δ3 _ w Hb H k3 s (.int _) (Fm.refl _ _ _)⟩⟩)⟩)⟩)
theorem w_rfind3 (h : W K E te δ (fun x δ1 => ∃ l, x = .d (.str l) ∧ W K E ta δ1 (fun y δ2 => ∃ m, y = .d (.str m) ∧ W K E tb δ2 (fun z δ3 => ∃ i, z = .d (.int i) ∧ W K E tc δ3 (fun u δ4 => ∃ j, u = .d (.int j) ∧ P (.d (.int (Txt.rfindIn (S l) (S m) i j))) δ4) X) X) X) X) : W K E (tBM K "str" rRfind3 te (tCons ta (tCons tb (tCons tc tNil)))) δ P X :=
  w_bmS (h.imp fun x δ1 ⟨l, el, k⟩ => ⟨l, el, wd_cons (k.imp fun y δ2 ⟨m, em, k2⟩ => ⟨.str m, em, wd_cons (k2.imp fun z δ3 ⟨i, ei, k3⟩ => ⟨.int i, ei, wd_cons (k3.imp fun u δ4 ⟨j, ej, k4⟩ => ⟨.int j, ej, wd_nil fun w σ Hb H vs s r Q q => by
    cases r with
    | cons r1 r2 =>
      cases r2 with
      | cons r2 r3 =>
        cases r3 with
        | cons r3 r4 => cases r4; cases r1; cases r2; cases r3; exact ⟨S l, S m, i, j, rfl, rfl, q _ δ4 _ w Hb H k4 s (.int _) (Fm.refl _ _ _)⟩⟩)⟩)⟩)⟩)
theorem w_rstrip (h : W K E te δ (fun x δ1 => ∃ l, x = .d (.str l) ∧ l.length ≤ 16000000 ∧ W K E ta δ1 (fun y δ2 => ∃ m, y = .d (.str m) ∧ P (.d (.str (Txt.rstripChars (S l) (S m)).cps.toList)) δ2) X) X) : W K E (tBM K "str" rRstrip te (tCons ta tNil)) δ P X :=
  w_bmS (h.imp fun x δ1 ⟨l, el, hl, k⟩ => ⟨l, el, wd_cons (k.imp fun y δ2 ⟨m, em, k2⟩ => ⟨.str m, em, wd_nil fun w σ Hb H vs s r Q q => by
    cases r with
    | cons r1 r2 =>
      cases r2
      cases r1
      refine ⟨S l, S m, rfl, rfl, by rw [S_len]; exact sz hl, ?_⟩
      rw [S_of (Txt.rstripChars (S l) (S m))]
      exact q _ δ2 _ w Hb H k2 s (.str _) (Fm.refl _ _ _)⟩)⟩)
theorem w_strip (h : W K E te δ (fun x δ1 => ∃ l, x = .d (.str l) ∧ l.length ≤ 16000000 ∧ W K E ta δ1 (fun y δ2 => ∃ m, y = .d (.str m) ∧ P (.d (.str (Txt.stripChars (S l) (S m)).cps.toList)) δ2) X) X) : W K E (tBM K "str" rStrip te (tCons ta tNil)) δ P X :=
  w_bmS (h.imp fun x δ1 ⟨l, el, hl, k⟩ => ⟨l, el, wd_cons (k.imp fun y δ2 ⟨m, em, k2⟩ => ⟨.str m, em, wd_nil fun w σ Hb H vs s r Q q => by
    cases r with
    | cons r1 r2 =>
      cases r2
      cases r1
      refine ⟨S l, S m, rfl, rfl, by rw [S_len]; exact sz hl, ?_⟩
      rw [S_of (Txt.stripChars (S l) (S m))]
      exact q _ δ2 _ w Hb H k2 s (.str _) (Fm.refl _ _ _)⟩)⟩)
/-- the parts of a text between one sign -/
def splitAt1 (c : Nat) : List Nat → List (List Nat)
  | [] => [[]]
  | x :: r => if x = c then [] :: splitAt1 c r else match splitAt1 c r with
    | [] => [[x]]
    | p :: ps => (x :: p) :: ps
theorem splitAt1_ne (c : Nat) : ∀ l, splitAt1 c l ≠ []
  | [] => by simp [splitAt1]
  | x :: r => by
    unfold splitAt1
    split
    · simp
    · split <;> simp
theorem spl_one (c : Nat) : ∀ (l acc : List Nat), TL.spl [c] 0 acc l = (match splitAt1 c l with | [] => [acc] | p :: ps => (acc ++ p) :: ps)
  | [], acc => by simp [TL.spl_nil, splitAt1]
  | x :: r, acc => by
    by_cases h : x = c
    · subst h
      have hp : TL.pre [x] (x :: r) = true := by simp [TL.pre]
      rw [TL.spl_hit hp]
      simp only [splitAt1, if_pos]
      have := spl_one x r []
      simp at this
      rw [List.length_singleton, Nat.sub_self, this, List.append_nil]
      cases e : splitAt1 x r with
      | nil => exact absurd e (splitAt1_ne x r)
      | cons p ps => rfl
    · have hp : TL.pre [c] (x :: r) = false := TL.pre_of_head [] r h
      rw [TL.spl_miss hp, spl_one c r (acc ++ [x])]
      simp only [splitAt1, if_neg h]
      cases e : splitAt1 c r with
      | nil => exact absurd e (splitAt1_ne c r)
      | cons p ps => simp
theorem split_S (l : List Nat) (c : Nat) (hc : c < 256) : (Txt.split (S l) (S [c])) = (splitAt1 c l).map S := by
  have h := TL.split_spl (S l) (S [c]) (by simp [S]) (TL.kind_ok (by simp [S]; exact hc))
  have e : TL.spl (TL.tl (S [c])) 0 [] (TL.tl (S l)) = splitAt1 c l := by
    show TL.spl [c] 0 [] l = _
    rw [spl_one]
    cases e : splitAt1 c l with
    | nil => exact absurd e (splitAt1_ne c l)
    | cons p ps => rfl
  rw [e] at h
  refine TL.map_tl_inj ?_
  rw [h, List.map_map]
  have : (TL.tl ∘ S) = id := rfl
  rw [this, List.map_id]
theorem w_split {c : Nat} (hc : c < 256) (h : W K E te δ (fun x δ1 => ∃ l, x = .d (.str l) ∧ l.length ≤ 16000000 ∧ W K E ta δ1 (fun y δ2 => y = .d (.str [c]) ∧ P (.d (.lst ((splitAt1 c l).map Da.str))) δ2) X) X) : W K E (tBM K "str" rSplit te (tCons ta tNil)) δ P X :=
  w_bmS (h.imp fun x δ1 ⟨l, el, hl, k⟩ => ⟨l, el, wd_cons (k.imp fun y δ2 ⟨em, k2⟩ => ⟨.str [c], em, wd_nil fun w σ Hb H vs s r Q q => by
    cases r with
    | cons r1 r2 =>
      cases r2
      cases r1
      refine ⟨S l, S [c], rfl, rfl, rfl, by rw [S_len]; exact Nat.le_trans (Nat.add_le_add_right hl 2) (by decide), fun p hp => ?_⟩
      rw [split_S l c hc]
      obtain ⟨s2, f2⟩ := s.new (o := .lst (((splitAt1 c l).map S).map V.str)) hp
      exact q _ δ2 _ w _ _ k2 s2 (.lst upd_same (rpAll_strs _)) f2⟩)⟩)
theorem joinL_nil : ∀ ls : List (List Nat), TL.joinL [] ls = ls.flatten
  | [] => rfl
  | [l] => by simp [TL.joinL]
  | l :: m :: r => by
    have ih := joinL_nil (m :: r)
    simp only [TL.joinL, List.flatten_cons] at ih ⊢
    rw [ih]
    simp
theorem w_join (h : W K E te δ (fun x δ1 => x = .d (.str []) ∧ W K E ta δ1 (fun y δ2 => ∃ ls : List (List Nat), y = .d (.lst (ls.map Da.str)) ∧ (ls.map List.length).sum ≤ 16000000 ∧ P (.d (.str ls.flatten)) δ2) X) X) : W K E (tM1 (rJoin K) te ta) δ P X := fun w σ Hb H s Q q e => by
  refine h w σ Hb H s _ (fun x δ1 v w1 Hb1 H1 ⟨el, k⟩ s1 r1 f1 => ?_) e
  subst el
  cases r1
  refine ⟨⟨_, rfl⟩, k w1 σ Hb1 H1 s1 _ (fun y δ2 u w2 Hb2 H2 ⟨ls, ey, hz, k2⟩ s2 r2 f2 => ?_) (e.on f1)⟩
  subst ey
  cases r2 with
  | @lst a xs _ hs ha =>
    have ex := ha.strs
    subst ex
    have e1 : (ls.map S).map (·.length) = ls.map List.length := by
      rw [List.map_map]
      exact List.map_congr_left fun l _ => S_len l
    refine ⟨S [], a, ls.map S, rfl, rfl, .inl ((SqL.of (s2.sub _ _ hs))), ?_, ?_⟩
    · rw [e1, S_len]
      simp
      omega
    · have e2 : Txt.join (S []) (ls.map S) = S ls.flatten := by
        refine TL.ext_tl ?_
        rw [TL.join_eq, TL.tl_join, List.map_map]
        have : (TL.tl ∘ S) = id := rfl
        rw [this, List.map_id]
        show TL.joinL [] ls = ls.flatten
        exact joinL_nil ls
      rw [e2]
      exact q _ δ2 _ w2 Hb2 H2 k2 s2 (.str _) (f1.trans f2)
theorem w_isalpha (h : W K E te δ (fun x δ1 => ∃ l, x = .d (.str l) ∧ P (.d (.bl (Txt.isalpha (S l)))) δ1) X) : W K E (tBM0 K "str" rIsalpha te) δ P X := fun w σ Hb H s Q q e => by
  refine h w σ Hb H s _ (fun x δ1 v w1 Hb1 H1 ⟨l, el, k⟩ s1 r1 f1 => ?_) e
  subst el
  cases r1
  exact ⟨rfl, S l, rfl, rfl, trivial, q _ δ1 _ w1 Hb1 H1 k s1 (.bl _) f1⟩
/-- append to an owned list -/
theorem w_append (h : W K E ta δ (fun x δ1 => ∃ (p : Addr) (i : Nat), x = .a p ∧ (∃ es, δ1[i]? = some (some (.o p (olst K es)))) ∧ W K E te δ1 (fun y δ2 => ∃ d ds, y = .d d ∧ δ2[i]? = some (some (.o p (olst K ds))) ∧ ds.length < 90000 ∧ P (.d .non) (δ2.set i (some (.o p (olst K (ds ++ [d])))))) X) X) : W K E (tBM K "list" rAppend ta (tCons te tNil)) δ P X := fun w σ Hb H s Q q e => by
  refine h w σ Hb H s _ (fun x δ1 v w1 Hb1 H1 ⟨p, i, ex, ⟨es, k0⟩, k⟩ s1 r1 f1 => ?_) e
  subst ex
  have ev : v = .ref p := r1
  subst ev
  obtain ⟨_, _, _, xs0, z1, _, _⟩ := s1.val i _ k0
  refine ⟨.inl ⟨rfl, _, .inl (.inl z1)⟩, k w1 σ Hb1 H1 s1 _ (fun y δ2 u w2 Hb2 H2 ⟨d, ds, ey, hi, hz, k2⟩ s2 r2 f2 => ?_) (e.on f1)⟩
  subst ey
  obtain ⟨_, _, _, xs, h1, h2, h3⟩ := s2.val i _ hi
  refine ⟨p, xs, u, rfl, rfl, h1, szl (by rw [h2.length]; omega), ?_⟩
  obtain ⟨s3, f3⟩ := s2.turn0 (A' := olst K (ds ++ [d])) (H' := upd H2 p (.lst (xs ++ [u]))) hi (fun a o ha hn => by rw [upd_ne (fun z => hn ((h3 a).mpr z))]; exact ha) (fun a ha => by
    by_cases z : a = p
    · subst z
      rw [upd_same]
      exact fun z => nomatch z
    · rw [upd_ne z]
      exact ha) ⟨_, upd_same, h2.append (.cons r2 .nil), h3⟩
  exact q _ _ _ w2 Hb2 _ k2 s3 .non ((f1.trans f2).trans f3)
/-- an assignment whose list is the slot's own from then on -/
def tAsgN (te : TE) (g : TG) : TS := tAsg te g
theorem t_newL {ta : TA} {i : Nat} (h : WD K E ta δ (fun ds δ1 => ds.length ≤ 16000000 ∧ ∀ p, N (δ1.set i (some (.o p (olst K ds))))) X) : T K E (tAsgN (tLst ta) (gName i)) δ N R X := fun w σ Hb H D s n r e => by
  refine h w σ Hb H s _ (fun ds δ1 vs w1 Hb1 H1 ⟨hl, k⟩ s1 r1 f1 => ⟨sz (by rw [r1.length]; exact hl), fun p hp => ?_⟩) (e σ)
  obtain ⟨s2, f2⟩ := s1.setOwn (i := i) (A := olst K ds) (H' := upd H1 p (.lst vs)) (F := fun a => a = p) hp (fun a ha => by rw [ha]; exact hp) (same_new hp) (fun a ha => by rw [ha, upd_same]; exact fun z => nomatch z) ⟨vs, upd_same, r1, fun a => Iff.rfl⟩
  exact n _ _ _ _ _ (k p) s2 (f1.trans f2)
theorem t_freeze {ts : TS} {i : Nat} {p : Addr} {ds : List Da} (hi : δ[i]? = some (some (.o p (olst K ds)))) (h : T K E ts (δ.set i (some (.d (.lst ds)))) N R X) : T K E ts δ N R X := fun w σ Hb H D s n r e => by
  obtain ⟨w1, Hb1, s1, f1, _⟩ := olst_freeze s hi
  exact h w1 σ Hb1 H D s1 (fun δ2 w2 σ2 Hb2 H2 k2 s2 f2 => n δ2 w2 σ2 Hb2 H2 k2 s2 (f1.trans f2)) (fun x δ2 v w2 σ2 Hb2 H2 k2 s2 r2 f2 => r x δ2 v w2 σ2 Hb2 H2 k2 s2 r2 (f1.trans f2)) fun σ' => (e σ').on f1
theorem t_forget {ts : TS} (i : Nat) (h : T K E ts (δ.set i none) N R X) : T K E ts δ N R X := fun w σ Hb H D s n r e => h w σ Hb H D (s.forget i) n r e

/-! ### truth -/
variable {PT' : Bool → Dl → Prop}
theorem wt_truLst (h : W K E te δ (fun x δ1 => ∃ ds, x = .d (.lst ds) ∧ PT' (!ds.isEmpty) δ1) X) : WT K E (tTruth K te) δ PT' X := fun w σ Hb H s Q q e => by
  refine h w σ Hb H s _ (fun x δ1 v w1 Hb1 H1 ⟨ds, el, k⟩ s1 r1 f1 => ?_) e
  subst el
  cases r1 with
  | @lst a xs _ hs ha =>
    refine ⟨!ds.isEmpty, .inl ⟨xs, (SqL.of (s1.sub _ _ hs)), ?_⟩, q _ δ1 w1 Hb1 H1 k s1 f1⟩
    cases ha <;> rfl
theorem wt_truOwn (h : W K E te δ (fun x δ1 => ∃ (p : Addr) (i : Nat) (ds : List Da), x = .a p ∧ δ1[i]? = some (some (.o p (olst K ds))) ∧ PT' (!ds.isEmpty) δ1) X) : WT K E (tTruth K te) δ PT' X := fun w σ Hb H s Q q e => by
  refine h w σ Hb H s _ (fun x δ1 v w1 Hb1 H1 ⟨p, i, ds, el, hi, k⟩ s1 r1 f1 => ?_) e
  subst el
  have ev : v = .ref p := r1
  subst ev
  obtain ⟨_, _, _, xs, h1, h2, h3⟩ := s1.val i _ hi
  refine ⟨!ds.isEmpty, .inl ⟨xs, .inl (.inl h1), ?_⟩, q _ δ1 w1 Hb1 H1 k s1 f1⟩
  cases h2 <;> rfl

/-! ### chains a < b < c -/
theorem w_chain {r r' : R2} (h : W K E ta δ (fun x δ1 => W K E tb δ1 (fun y δ2 => RD K E r x y δ2 (fun z δ3 => ∃ b, z = .d (.bl b) ∧ (b = true → W K E tc δ3 (fun u δ4 => RD K E r' y u δ4 P X) X) ∧ (b = false → P (.d (.bl false)) δ3)) X) X) X) : W K E (tChain r r' ta tb tc) δ P X := fun w σ Hb H s Q q e => by
  refine h w σ Hb H s _ (fun x δ1 v w1 Hb1 H1 k1 s1 r1 f1 => ?_) e
  refine k1 w1 σ Hb1 H1 s1 _ (fun y δ2 u w2 Hb2 H2 k2 s2 r2 f2 => ?_) (e.on f1)
  refine k2 w2 σ Hb2 H2 v u s2 (r1.mono f2.b) r2 _ (fun z δ3 t w3 Hb3 H3 ⟨b, eb, k3⟩ s3 r3 f3 => ?_) (e.on (f1.trans f2))
  subst eb
  cases r3
  refine ⟨b, rfl, ?_⟩
  cases b with
  | true =>
    have f123 := (f1.trans f2).trans f3
    refine k3.1 rfl w3 σ Hb3 H3 s3 _ (fun z δ4 t w4 Hb4 H4 k4 s4 r4 f4 => ?_) (e.on f123)
    exact k4 w4 σ Hb4 H4 u t s4 (r2.mono (f3.trans f4).b) r4 Q (fun z δ5 t w5 Hb5 H5 k5 s5 r5 f5 => q z δ5 t w5 Hb5 H5 k5 s5 r5 ((f123.trans f4).trans f5)) (e.on (f123.trans f4))
  | false => exact q _ δ3 _ w3 Hb3 H3 (k3.2 rfl) s3 (.bl false) ((f1.trans f2).trans f3)
end
end Cr

namespace Cr
open PySem PySem.Spec PyProof.Rows L2

/-! ### text * number -/
def rMulStr : R2 := fun x y H Q => ∃ (c : Nat) (n : Int), x = .str (S [c]) ∧ y = .int n ∧ 2 ≤ n ∧ n ≤ 10000 ∧ Q (.str (S (List.replicate n.toNat c))) H
theorem tooLong_no {n : Nat} (h : n ≤ 10000) : Builtin.Str.tooLong n = false := by
  unfold Builtin.Str.tooLong
  exact decide_eq_false (by have := sizeLine_eq; omega)
theorem foldl_one (c : Nat) : ∀ (n : Nat) (acc : Array Nat), (List.replicate n #[c]).foldl (· ++ ·) acc = acc ++ (List.replicate n c).toArray
  | 0, acc => by simp
  | n + 1, acc => by
    rw [List.replicate_succ, List.foldl_cons, foldl_one c n]
    rw [Array.append_assoc, List.replicate_succ]
    congr 1
    simp
theorem op_mulStr {X : Cx} : OpR X (binaryOp .Mult) rMulStr := by
  intro pins s σ H x y v u Q I rx ry h
  obtain ⟨c, n, rfl, rfl, h1, h2, q⟩ := h
  obtain ⟨t, rfl⟩ := rx
  obtain ⟨t', rfl⟩ := ry
  have h3 : (S [c]).length = 1 := S_len [c]
  have e1 : ¬ n < 1 := by omega
  have e2 : (n == 1 || (S [c]).length == 0) = false := by
    rw [h3]
    have : (n == 1) = false := by simp; omega
    rw [this]
    rfl
  have e3 : (⟨(List.replicate n.toNat (S [c]).cps).foldl (· ++ ·) #[]⟩ : Str) = S (List.replicate n.toNat c) := by
    have : (S [c]).cps = #[c] := rfl
    rw [this, foldl_one]
    simp [S]
  refine P.mul_str ?_ (fun _ _ => ?_) (fun _ _ => ?_) ?_
  · have a : decide (n < -(2 ^ 63 : Int)) = false := decide_eq_false (by omega)
    have b : decide (n ≥ 2 ^ 63) = false := decide_eq_false (by omega)
    rw [a, b]
    rfl
  · rw [h3]
    have : (1 : Int) ≤ (2 ^ 63 - 1) / n := by
      refine Int.le_ediv_of_mul_le (by omega) ?_
      omega
    show ¬ (((1 : Nat) : Int) > (2 ^ 63 - 1) / n)
    omega
  · rw [h3]
    exact tooLong_no (n := 1 * n.toNat) (by omega)
  · rw [if_neg e1, e2, if_neg Bool.false_ne_true, e3]
    refine ⟨?_, ?_⟩
    · show (S (List.replicate n.toNat c)).length ≤ sizeLine
      rw [S_len, List.length_replicate]
      exact sz (by omega)
    · exact ⟨.str (S (List.replicate n.toNat c)), H, I.tok _, ⟨_, rfl⟩, q⟩

/-! ### list.count of flat items -/
def rCount (K : PySem.W.Frag) : V → List V → Hp → VK → Prop := fun x xs H Q => ∃ (a : Addr) (ys : List V) (y : V), x = V.ref a ∧ xs = [y] ∧ SqL K H a ys ∧ flatV y = true ∧ ys.all flatV = true ∧ Q (.int ((ys.countP fun z => eqV z y : Nat) : Int)) H
theorem countP_eqU {x : V} : ∀ {xs : List V} {us : List Value}, Vals xs us → xs.all flatV = true → us.countP (eqU x) = xs.countP fun y => eqV y x
  | _, _, .nil, _ => rfl
  | _, _, .cons r t, h => by
    rw [List.all_cons, Bool.and_eq_true] at h
    rw [List.countP_cons, List.countP_cons, countP_eqU t h.2, eqU_of r h.1]
theorem mt_cnt {X : Cx} : MtR X "list.count" (rCount X.K) := by
  intro pins s σ H x xs v us Q I rx rxs h
  obtain ⟨p, ys, y, rfl, rfl, hs, fy, fys, q⟩ := h
  cases rx
  obtain ⟨u, rfl, ru⟩ := rxs.one
  obtain ⟨its, rv, ⟨⟨cls, dd, data, sl⟩, n, ho, hc, hdn, hd⟩, hlen⟩ := I.list hs
  simp only at hc hd
  subst hc hd
  refine call_meets PySem.F.slot_list_count ⟨_, ho, rfl⟩ PySem.F.entry_list_count (PySem.F.args_list_count_2 _ _)
    (SeqAt.list_countAt p its.toArray n dd sl u (eqU y)) ⟨ho, fun z hz => mem_eqAt ru fy rv fys z (by simpa using hz), ?_⟩
  have ec : its.toArray.toList.countP (eqU y) = ys.countP fun z => eqV z y := by
    simpa using countP_eqU (x := y) rv fys
  refine ⟨.int ((ys.countP fun z => eqV z y : Nat) : Int), H, I.tok _, ⟨s.toks, ?_⟩, q⟩
  show Value.int ((its.toArray.toList.countP (eqU y) : Nat) : Int) s.toks = _
  rw [ec]

/-! ### isinstance of an exception that was kept -/
def rIsExc (K : PySem.W.Frag) : List V → Hp → VK → Prop := fun xs H Q => ∃ (a D : Addr) (c : V) (cv : Value) (b : Bool), xs = [.ref a, c] ∧ H a = some (ExH (.ref D) a) ∧ ExcC K D ∧ (∀ u, RelV c u → u = cv) ∧ PySem.W.kitOne K (.ref D) cv = some b ∧ Q (.bl b) H
theorem call_isExc {X : Cx} : CallR X (.builtin "isinstance") (rIsExc X.K) := by
  intro pins s σ H xs us Q I r h
  obtain ⟨a, D, c, cv, b, rfl, ha, C, hcv, e, q⟩ := h
  obtain ⟨ua, uc, rfl, ra, rc⟩ := vals2 r
  cases ra
  have ec := hcv _ rc
  subst ec
  obtain ⟨⟨oe, vs, hget, hz, hv⟩, _, _⟩ := I.hok a _ ha
  have J : PySem.W.InstAt s.heap a oe D none := by
    obtain ⟨oc, od, oda, osl⟩ := oe
    obtain ⟨h1, h2⟩ := hz
    dsimp only at h1 h2 hv
    subst h1 h2 hv
    exact ⟨hget, rfl, rfl, trivial⟩
  exact PySem.W.kia_one (PySem.W.handS_kitx_exc C.hg C.hk C.hs C.hd C.ha C.hn C.ht C.hm) I.kIn J e (fun z => nomatch z) fun tk => ⟨.bl b, H, I.kept (t' := tk) fun _ _ z => z, rfl, q⟩

/-! ### try .. except X as n: suite, the exception kept as an object behind it -/
theorem inv_track {X : Cx} {pins : List (Addr × Obj)} {σ : L2.St} {H : Hp} {s : Shared} {a : Addr} {o : HO} (I : Inv X pins σ H s) (hn : H a = none) (h0 : X.s_0.heap.get? a = none) (nL : a ≠ X.env.locals) (hc : ∀ x c, X.env.cells.lookup x = some c → c ≠ a) (hp : ∀ p ∈ X.pn ++ pins, p.1 ≠ a) (hob : ObjOk X.prog X.w (upd H a o) s.heap a o) : Inv X pins σ (upd H a o) s where
  ok := I.ok
  os := I.os
  bare := I.bare
  base := by
    have nb : ∀ (b : Addr) (u : Obj), X.s_0.heap.get? b = some u → b ≠ a := fun b u e z => by
      rw [z, h0] at e
      cases e
    have nh : ∀ (b : Addr) (u : HO), H b = some u → b ≠ a := fun b u e => ne_of_none e hn
    exact ⟨I.base.keep, I.base.slot, fun b u e n hx => by rw [upd_ne (nb b u e)]; exact I.base.free b u e n hx, I.base.there, fun b xs e => by
      have e1 := I.base.tups b xs e
      rw [upd_ne (nh b _ e1)]
      exact e1, fun b u xs e => by
      have e1 := I.base.frzs b u xs e
      rw [upd_ne (nh b _ e1)]
      exact e1, fun b ps e => by
      obtain ⟨m, e1⟩ := I.base.tbls b ps e
      exact ⟨m, by rw [upd_ne (nh b _ e1)]; exact e1⟩⟩
  loc := I.loc
  cell := I.cell
  free := by rw [upd_ne (Ne.symm nL)]; exact I.free
  freeC := fun x c e => by rw [upd_ne (hc x c e)]; exact I.freeC x c e
  pin := fun p hp' => by
    obtain ⟨h1, h2, h3⟩ := I.pin p hp'
    exact ⟨h1, by rw [upd_ne (hp p hp')]; exact h2, h3⟩
  hok := fun b u e => by
    by_cases z : b = a
    · subst z
      rw [upd_same] at e
      cases e
      exact hob
    · rw [upd_ne z] at e
      exact (I.hok b u e).stay (fun c v _ q => q) (fun c q => by rw [upd_ne (ne_of_none q hn)]; exact q) fun c xs q => by rw [upd_ne (ne_of_none q hn)]; exact q
  len := I.len
/-- what is wished of an exception of the body; behind the suite the object stands in the heap -/
def wKeep (K : PySem.W.Frag) (c : Value) (i : Nat) (ts : Addr → Value → Option Addr → TS) (Wout : WX) (D : Ends) : WX := fun cls d σ H =>
  ∃ b, PySem.W.exmOne K cls c = some b ∧ d = none ∧ (b = true → ∀ a, H a = none → ts a cls d { nx := fun σ' H' => H' a = none ∧ D.nx (σ'.set i none) (upd H' a (ExH cls a)), rt := fun _ _ => False, bk := fun _ _ => False, ct := fun _ _ => False } (σ.set i (some (.ref a))) H) ∧ (b = false → Wout cls d σ H)
section
variable {X : Cx} {x n : Str} {c : Value} {i : Nat} {body suite : List Stmt} {b₀ : Stmt} {np pos pos' : Pos} {tb : WX → TS} {ts : Addr → Value → Option Addr → TS} {Wout : WX}
theorem ps_try_keep (hs : X.stack = X.env :: X.outer) (hf : X.env.frame = some X.env.locals) (hex : X.ex = []) (hN : X.N.Nodup) (hi : X.N[i]? = some n) (hln : X.env.kindOf n = some .local) (hc : Names X x c) (tk : Takes X Wout)
    (hb : ∀ (W : WX) (pn : List (Addr × Obj)) (xe : Value → Shared → Prop), Takes (X.tr pn xe) W → PassesOwn (model X.prog X.w) X.A X.env xe → PSs (X.tr pn xe) body (tb W))
    (hsu : ∀ (a : Addr) (oe : Obj) (cls : Value) (d : Option Addr) (pn : List (Addr × Obj)), PSs (X.suite a ((a, oe) :: pn)) (b₀ :: suite) (ts a cls d)) :
    PS X (.Try body [.ExceptHandler (some (.Name x np)) (some n) (b₀ :: suite) pos'] [] [] pos) (fun D σ H => tb (wKeep X.K c i ts Wout D) D σ H) := by
  refine ⟨fun pins s σ H D J0 hw => ?_⟩
  have okX := J0.ok
  have frm : X.A.frames = some (X.env :: X.outer) := by rw [okX.frames, hs]
  have locn : Loc X.env.scope n := .inl hln
  refine wpAny_Try_except ?_
  refine wpAny_mono ((hb (wKeep X.K c i ts Wout D) (X.pn ++ pins) (fun ex st1 => wpAny (model X.prog X.w) X.A (noteFrame ex X.env) (fun _ st2 => wpAny (model X.prog X.w) X.A (setFlight ex none) (fun _ st3 =>
    wpAny (model X.prog X.w) X.A (handleBy ex X.env [.ExceptHandler (some (.Name x np)) (some n) (b₀ :: suite) pos']) (SP X pins D) X.xe st3) X.xe st2) X.xe st1) (fun u st xx => ?_) PassesOwn.looking).run [] s σ H D (J0.toTry _) hw) (fun fl st hsp => ?_) (fun ex st he => he)
  · obtain ⟨a, B, sI, pins', σ', H', cls, d, rfl, J', nb, up, sky, na, os, ag, bb, hb1, hd0, hyes, hno⟩ := xx
    have J : Inv X pins σ' H' sI := J'.ofTry okX
    have sky1 : Sky B (X.env :: X.outer) a (Zc cls d) X.env.locals st.heap := by rw [← hs]; exact sky
    show wpAny (model X.prog X.w) X.A (noteFrame (.ref a) X.env) _ _ _
    refine Sky.land Zc.steady frm hf sky1 fun h3 fl3 up3 => ?_
    have K3 : Inv X pins σ' H' { st with heap := h3 } := J.landed nb fl3.1 (up.trans up3) os ag
    obtain ⟨oe3, vs3, he3, hz3, hd3⟩ := fl3.there
    have nfr : a ∉ frs (X.env :: X.outer) := fun hm => by
      obtain ⟨_, o', e', hnf⟩ := fl3.2.2.1.mem hm
      rw [he3] at e'
      cases e'
      exact hnf _ hd3
    have nL : a ≠ X.env.locals := fun z => nfr (List.mem_filterMap.mpr ⟨X.env, List.mem_cons_self, by rw [hf, z]⟩)
    have nF : a ∉ X.fs := fun hm => by
      obtain ⟨ev, hev, qv⟩ := List.mem_filterMap.mp hm
      exact nfr (List.mem_filterMap.mpr ⟨ev, List.mem_cons_of_mem _ hev, qv⟩)
    -- the exception is younger than the frame's entry
    have gone : sI.heap.get? a = none := by
      cases q : sI.heap.get? a with
      | none => rfl
      | some o =>
        have z := nb a o q (by rw [hs]; exact nfr)
        have z2 : B.get? a = none := fl3.2.1
        rw [z2] at z
        cases z
    have young : X.s_0.heap.get? a = none := by
      cases q : X.s_0.heap.get? a with
      | none => rfl
      | some o =>
        obtain ⟨o', z⟩ := J.base.there a o q (by rw [hex]; simp)
        rw [gone] at z
        cases z
    have cells : ∀ y cc, X.env.cells.lookup y = some cc → cc ≠ a := fun y cc e z => by
      obtain ⟨v, w1⟩ := J.cell y cc e
      obtain ⟨o, q, _⟩ := w1
      rw [z, gone] at q
      cases q
    have pinne : ∀ p ∈ X.pn ++ pins, p.1 ≠ a := fun p hp z => by
      have q := (J.pin p hp).1
      rw [z, gone] at q
      cases q
    have S3 := K3.suite he3 hd3 na nL nF
    refine wpAny_handleBy_cons (codeAny_handlers_test ?_) (by intro q; cases q)
    have LT : PySem.W.Looks (model X.prog X.w) h3 (typeOf (.ref a)) cls := fun A Q E s k q => wpAny_typeOf_ref (k _ _ he3) (by rw [hz3.1]; exact q)
    have LM := PySem.W.exm_one (M := model X.prog X.w) (K3.kIn) LT hb1
    have test : ∀ {Q : Value → Shared → Prop} {E : Value → Shared → Prop}, Q c { st with heap := h3 } → wpAny (model X.prog X.w) (X.A.mark (some (.ref a))) (eval (.Name x np) X.env) Q E { st with heap := h3 } := fun {Q E} q => by
      obtain ⟨hg, hdbg, hm | ⟨hm, hv, hnn⟩⟩ := hc
      · exact ld_glob (X := X.suite a ((a, oe3) :: (X.pn ++ pins))) S3 hg hm q hdbg
      · exact ld_blt (X := X.suite a ((a, oe3) :: (X.pn ++ pins))) S3 hg hm hv q hnn hdbg
    refine test (LM.here ?_)
    cases bb with
    | true =>
      refine codeAny_handlers_suite_as ?_
      refine HandSPX.lands_againZ fl3 fun h4 fl4 up4 => ?_
      have K4 : Inv X pins σ' H' { st with heap := h4 } := J.landed nb fl4.1 ((up.trans up3).trans up4) os ag
      obtain ⟨oe4, vs4, he4, hz4, hd4⟩ := fl4.there
      have S4 := K4.suite he4 hd4 na nL nF
      refine store_ok (X := X.suite a ((a, oe4) :: (X.pn ++ pins))) (v := .ref a) S4 hN hi locn rfl (fun s5 S5 => ?_) (.inr hln)
      refine wpAny_mono ((hsu a oe4 cls d (X.pn ++ pins)).run [] s5 _ H' _ S5 (hyes rfl a na)) (fun fw s6 hsp => ?_) (fun _ _ z => False.elim z)
      cases fw with
      | next =>
        obtain ⟨σ6, H6, S6, na6, q6⟩ := hsp
        -- the pin of the object is kept while its name goes
        have T6 : Inv X ((a, oe4) :: pins) σ6 H6 s6 := ⟨okX, S6.os, S6.bare, S6.base, S6.loc, S6.cell, S6.free, S6.freeC, fun p hp => by
          refine S6.pin p ?_
          rw [List.append_nil]
          rcases List.mem_append.mp hp with z | z
          · exact List.mem_cons_of_mem _ (List.mem_append_left _ z)
          · rcases List.mem_cons.mp z with z | z
            · rw [z]
              exact List.mem_cons_self
            · exact List.mem_cons_of_mem _ (List.mem_append_right _ z), S6.hok, S6.len⟩
        refine gone_ok T6 hN hi hln fun s7 J7 => ?_
        have hpin := J7.pin (a, oe4) (List.mem_append_right _ List.mem_cons_self)
        have J8 : Inv X pins (σ6.set i none) H6 s7 := J7.pins_of fun p hp => J7.pin p (List.mem_append_right _ (List.mem_cons_of_mem _ hp))
        refine ⟨_, _, inv_track (o := ExH cls a) J8 na6 young nL cells pinne ⟨⟨oe4, vs4, hpin.1, by rw [← hd0]; exact hz4, hd4⟩, ⟨oe4, hpin.1⟩, fun _ _ ⟨o, v, q, r⟩ k => ⟨o, v, k o q, r⟩⟩, q6⟩
      | brk =>
        obtain ⟨σ6, H6, S6, q6⟩ := hsp
        exact False.elim q6
      | cont =>
        obtain ⟨σ6, H6, S6, q6⟩ := hsp
        exact False.elim q6
      | ret u =>
        obtain ⟨v6, σ6, H6, S6, r6, q6⟩ := hsp
        exact False.elim q6
    | false =>
      show wpAny _ X.A (handleBy (.ref a) X.env []) _ _ _
      refine wpAny_handleBy_nil ?_
      obtain ⟨k1, k2, k3, oe, vs, T, oT, ts', he, hz, hd, h1, hr⟩ := id fl3
      unfold PySem.passOn
      refine wpAny_bind (wpAny_field he hd h1 ?_)
      rw [if_neg (show ¬ ((Value.ref T == Value.none) = true) from by simp)]
      have out : wpAny (model X.prog X.w) X.A (setFlight (.ref a) X.env.frame) (fun _ s4 => wpAny (model X.prog X.w) X.A (throw (.ref a) : Sem Flow) (SP X pins D) X.xe s4) X.xe { st with heap := h3 } := by
        rw [hf]
        refine HandSPX.setFlight_upZ fl3 fun h4 hh4 up4 => wpAny_throw (tk _ _ ?_)
        exact ⟨a, B, sI, pins, σ', H', cls, d, rfl, J, nb, (up.trans up3).trans up4, .inr (.inr (by rw [hs]; exact hh4)), na, os, ag, hno rfl⟩
      first
        | exact wpAny_bind (wpAny_pure (wpAny_bind out))
        | exact wpAny_bind out
  · cases fl with
    | next =>
      obtain ⟨σ', H', J', q⟩ := hsp
      exact wpAny_execs_nil ⟨σ', H', J'.ofTry okX, q⟩
    | brk =>
      obtain ⟨σ', H', J', q⟩ := hsp
      exact ⟨σ', H', J'.ofTry okX, q⟩
    | cont =>
      obtain ⟨σ', H', J', q⟩ := hsp
      exact ⟨σ', H', J'.ofTry okX, q⟩
    | ret u =>
      obtain ⟨v, σ', H', J', r, q⟩ := hsp
      exact ⟨v, σ', H', J'.ofTry okX, r, q⟩
end
end Cr

namespace Cr
open PySem L2

/-! ### == at any depth -/
mutual
def py : Da → PyData
  | .non => .none
  | .bl b => .bool b
  | .int i => .int i
  | .str l => .str (S l)
  | .lst xs => .list (pyL xs)
  | .tup xs => .tuple (pyL xs)
  | .row _ _ _ => .none
  | .exc _ => .none
  | .scr _ => .none
def pyL : List Da → List PyData
  | [] => []
  | x :: xs => py x :: pyL xs
end
/-- plain data, at most n deep, its signs below 1114112 -/
def lv : Nat → Da → Prop
  | _, .non => True
  | _, .bl _ => True
  | _, .int _ => True
  | _, .str l => ∀ c ∈ l, c < 1114112
  | 0, .lst _ => False
  | 0, .tup _ => False
  | n + 1, .lst xs => ∀ x ∈ xs, lv n x
  | n + 1, .tup xs => ∀ x ∈ xs, lv n x
  | _, .row _ _ _ => False
  | _, .exc _ => False
  | _, .scr _ => False
def eqd (d e : Da) : Bool := PyData.eqv (py d) (py e)
theorem strOk_S {l : List Nat} (h : ∀ c ∈ l, c < 1114112) : PyData.strOk (S l) = true := by
  unfold PyData.strOk S
  simpa using h
mutual
theorem lv_can : ∀ (n : Nat) (d : Da), lv n d → (py d).canLay0 = true ∧ (py d).depth ≤ n
  | _, .non, _ => ⟨rfl, by simp [py, PyData.depth]⟩
  | _, .bl _, _ => ⟨rfl, by simp [py, PyData.depth]⟩
  | _, .int _, _ => ⟨rfl, by simp [py, PyData.depth]⟩
  | n, .str l, h => ⟨by
      have h : ∀ c ∈ l, c < 1114112 := by cases n <;> exact h
      show PyData.strOk (S l) = true
      exact strOk_S h, by simp [py, PyData.depth]⟩
  | 0, .lst _, h => h.elim
  | 0, .tup _, h => h.elim
  | n + 1, .lst xs, h => by
    obtain ⟨h1, h2⟩ := lv_canL n xs h
    exact ⟨h1, by simp only [py, PyData.depth]; omega⟩
  | n + 1, .tup xs, h => by
    obtain ⟨h1, h2⟩ := lv_canL n xs h
    exact ⟨h1, by simp only [py, PyData.depth]; omega⟩
  | n, .row _ _ _, h => by cases n <;> exact h.elim
  | n, .exc _, h => by cases n <;> exact h.elim
  | n, .scr _, h => by cases n <;> exact h.elim
theorem lv_canL : ∀ (n : Nat) (xs : List Da), (∀ x ∈ xs, lv n x) → PyData.canLayAll0 (pyL xs) = true ∧ PyData.depthAll (pyL xs) ≤ n
  | n, [], _ => ⟨rfl, by simp [pyL, PyData.depthAll]⟩
  | n, x :: xs, h => by
    obtain ⟨h1, h2⟩ := lv_can n x (h x List.mem_cons_self)
    obtain ⟨h3, h4⟩ := lv_canL n xs fun y hy => h y (List.mem_cons_of_mem _ hy)
    refine ⟨?_, ?_⟩
    · show ((py x).canLay0 && PyData.canLayAll0 (pyL xs)) = true
      rw [h1, h3]
      rfl
    · show max (py x).depth (PyData.depthAll (pyL xs)) ≤ n
      omega
end
theorem lv_shaped {n : Nat} {d : Da} (h : lv n d) (hn : n ≤ 60) : SeqAt.shaped (py d) = true := by
  obtain ⟨h1, h2⟩ := lv_can n d h
  unfold SeqAt.shaped
  rw [h1, Bool.true_and]
  exact decide_eq_true (by omega)
section
variable {K : PySem.W.Frag} {H : Hp}
mutual
theorem Rp.dp : ∀ {v : V} {d : Da} (n : Nat), Rp K H v d → lv n d → Dp K H v (py d)
  | _, _, _, .non, _ => .non
  | _, _, _, .bl b, _ => .bl b
  | _, _, _, .int i, _ => .int i
  | _, _, _, .str l, _ => .str _
  | _, _, 0, .lst h a, q => q.elim
  | _, _, 0, .tup h a, q => q.elim
  | _, _, n + 1, .lst h a, q => .lst (SqL.of h) (RpAll.dp n a q)
  | _, _, n + 1, .tup h a, q => .tup h (RpAll.dp n a q)
  | _, _, n, .row h, q => by cases n <;> exact q.elim
  | _, _, n, .exc h, q => by cases n <;> exact q.elim
  | _, _, n, .scr h, q => by cases n <;> exact q.elim
theorem RpAll.dp : ∀ {vs : List V} {ds : List Da} (n : Nat), RpAll K H vs ds → (∀ x ∈ ds, lv n x) → DpAll K H vs (pyL ds)
  | _, _, _, .nil, _ => .nil
  | _, _, n, .cons r t, q => .cons (Rp.dp n r (q _ List.mem_cons_self)) (RpAll.dp n t fun y hy => q y (List.mem_cons_of_mem _ hy))
end
end
theorem eqd_refl {n : Nat} {d : Da} (h : lv n d) : eqd d d = true := SeqAt.eqv_refl _ (lv_can n d h).1
section
variable {K : PySem.W.Frag} {E : WX} {δ : Dl} {P : PX} {X : XX} {ta tb te tc : TE} {N : Dl → Prop} {R : PX}
theorem rd_eqD {d e : Da} (n m : Nat) (hd : lv n d) (he : lv m e) (k : P (.d (.bl (eqd d e))) δ) (hn : n ≤ 60 := by decide) (hm : m ≤ 60 := by decide) : RD K E (rEqD K) (.d d) (.d e) δ P X := rd_pure (fun Hb H v u sb r1 r2 Q q =>
  ⟨_, _, Rp.dp n (Rp.mono sb r1) hd, Rp.dp m (Rp.mono sb r2) he, lv_shaped hd hn, lv_shaped he hm, q _ (.bl _)⟩) k
theorem rd_neD {d e : Da} (n m : Nat) (hd : lv n d) (he : lv m e) (k : P (.d (.bl (!eqd d e))) δ) (hn : n ≤ 60 := by decide) (hm : m ≤ 60 := by decide) : RD K E (rNeD K) (.d d) (.d e) δ P X := rd_pure (fun Hb H v u sb r1 r2 Q q =>
  ⟨_, _, Rp.dp n (Rp.mono sb r1) hd, Rp.dp m (Rp.mono sb r2) he, lv_shaped hd hn, lv_shaped he hm, q _ (.bl _)⟩) k
/-- an owned list against data -/
theorem rd_eqDo {ds : List Da} {e : Da} {i : Nat} {p : Addr} (hi : δ[i]? = some (some (.o p (olst K ds)))) (n m : Nat) (hd : lv n (.lst ds)) (he : lv m e) (k : P (.d (.bl (eqd (.lst ds) e))) δ) (hn : n ≤ 60 := by decide) (hm : m ≤ 60 := by decide) : RD K E (rEqD K) (.a p) (.d e) δ P X := fun w σ Hb H v u s r1 r2 Q q _ => by
  obtain ⟨_, _, _, xs, h1, h2, _⟩ := s.val i _ hi
  have ev : v = .ref p := r1
  subst ev
  have rr : Rp K H (.ref p) (.lst ds) := .lst h1 (h2.mono s.sub)
  exact ⟨_, _, Rp.dp n rr hd, Rp.dp m (Rp.mono s.sub r2) he, lv_shaped hd hn, lv_shaped he hm, q _ _ _ w Hb H k s (.bl _) (Fm.refl _ _ _)⟩
theorem rd_neDo {ds : List Da} {e : Da} {i : Nat} {p : Addr} (hi : δ[i]? = some (some (.o p (olst K ds)))) (n m : Nat) (hd : lv n (.lst ds)) (he : lv m e) (k : P (.d (.bl (!eqd (.lst ds) e))) δ) (hn : n ≤ 60 := by decide) (hm : m ≤ 60 := by decide) : RD K E (rNeD K) (.a p) (.d e) δ P X := fun w σ Hb H v u s r1 r2 Q q _ => by
  obtain ⟨_, _, _, xs, h1, h2, _⟩ := s.val i _ hi
  have ev : v = .ref p := r1
  subst ev
  have rr : Rp K H (.ref p) (.lst ds) := .lst h1 (h2.mono s.sub)
  exact ⟨_, _, Rp.dp n rr hd, Rp.dp m (Rp.mono s.sub r2) he, lv_shaped hd hn, lv_shaped he hm, q _ _ _ w Hb H k s (.bl _) (Fm.refl _ _ _)⟩
theorem rd_neOd {ds : List Da} {e : Da} {i : Nat} {p : Addr} (hi : δ[i]? = some (some (.o p (olst K ds)))) (n m : Nat) (hd : lv n (.lst ds)) (he : lv m e) (k : P (.d (.bl (!eqd e (.lst ds)))) δ) (hn : n ≤ 60 := by decide) (hm : m ≤ 60 := by decide) : RD K E (rNeD K) (.d e) (.a p) δ P X := fun w σ Hb H v u s r1 r2 Q q _ => by
  obtain ⟨_, _, _, xs, h1, h2, _⟩ := s.val i _ hi
  have ev : u = .ref p := r2
  subst ev
  have rr : Rp K H (.ref p) (.lst ds) := .lst h1 (h2.mono s.sub)
  exact ⟨_, _, Rp.dp m (Rp.mono s.sub r1) he, Rp.dp n rr hd, lv_shaped he hm, lv_shaped hd hn, q _ _ _ w Hb H k s (.bl _) (Fm.refl _ _ _)⟩
theorem rd_mulStr {c : Nat} {n : Int} (h1 : 2 ≤ n) (h2 : n ≤ 10000) (k : P (.d (.str (List.replicate n.toNat c))) δ) : RD K E rMulStr (.d (.str [c])) (.d (.int n)) δ P X := rd_pure (fun Hb H v u _ r1 r2 Q q => by
  cases r1
  cases r2
  exact ⟨c, n, rfl, rfl, h1, h2, q _ (.str _)⟩) k

/-! ### flat items of an owned list: count, index -/
theorem countP_bls (bs : List Bool) (b : Bool) : (bs.map V.bl).countP (fun z => eqV z (.bl b)) = bs.count b := by
  induction bs with
  | nil => rfl
  | cons a r ih =>
    rw [List.map_cons, List.countP_cons, List.count_cons, ih]
    cases a <;> cases b <;> rfl
theorem w_count {b : Bool} (h : W K E te δ (fun x δ1 => ∃ (p : Addr) (i : Nat) (bs : List Bool), x = .a p ∧ δ1[i]? = some (some (.o p (olst K (bs.map Da.bl)))) ∧ P (.d (.int (bs.count b : Nat))) δ1) X) : W K E (tBM K "list" (rCount K) te (tCons (tC (.bl b)) tNil)) δ P X := fun w σ Hb H s Q q e => by
  refine h w σ Hb H s _ (fun x δ1 v w1 Hb1 H1 ⟨p, i, bs, ex, hi, k⟩ s1 r1 f1 => ?_) e
  subst ex
  have ev : v = .ref p := r1
  subst ev
  obtain ⟨_, _, _, xs, h1, h2, _⟩ := s1.val i _ hi
  have e1 := h2.bls
  subst e1
  refine ⟨.inl ⟨rfl, _, .inl (.inl h1)⟩, p, bs.map V.bl, .bl b, rfl, rfl, .inl (.inl h1), rfl, ?_, ?_⟩
  · simp [flatV]
  · rw [countP_bls]
    exact q _ _ _ w1 Hb1 H1 k s1 (.int _) f1
theorem w_index {b : Bool} (h : W K E te δ (fun x δ1 => ∃ (p : Addr) (i : Nat) (bs : List Bool) (j : Nat), x = .a p ∧ δ1[i]? = some (some (.o p (olst K (bs.map Da.bl)))) ∧ bs[j]? = some b ∧ (∀ m c, m < j → bs[m]? = some c → c ≠ b) ∧ P (.d (.int (j : Nat))) δ1) X) : W K E (tBM K "list" (rIndex K) te (tCons (tC (.bl b)) tNil)) δ P X := fun w σ Hb H s Q q e => by
  refine h w σ Hb H s _ (fun x δ1 v w1 Hb1 H1 ⟨p, i, bs, j, ex, hi, hj, hm, k⟩ s1 r1 f1 => ?_) e
  subst ex
  have ev : v = .ref p := r1
  subst ev
  obtain ⟨_, _, _, xs, h1, h2, _⟩ := s1.val i _ hi
  have e1 := h2.bls
  subst e1
  refine ⟨.inl ⟨rfl, _, .inl (.inl h1)⟩, p, bs.map V.bl, .bl b, j, .bl b, rfl, rfl, .inl (.inl h1), rfl, by simp [flatV], by rw [List.getElem?_map, hj]; rfl, by cases b <;> rfl, fun m z hmj hz => ?_, q _ _ _ w1 Hb1 H1 k s1 (.int _) f1⟩
  rw [List.getElem?_map] at hz
  cases ez : bs[m]? with
  | none => rw [ez] at hz; cases hz
  | some c =>
    rw [ez] at hz
    cases hz
    have := hm m c hmj ez
    cases b <;> cases c <;> first | rfl | exact absurd rfl this

/-! ### exceptions -/
theorem cd_isExc {C : Str} {p : Addr} {b : Bool} (hC : ExcC K (He.ga K C)) (hk : PySem.W.kitOne K (.ref (He.ga K C)) (.ref p) = some b) (k : P (.d (.bl b)) δ) : CD K E (rIsExc K) [.d (.exc C), .a p] δ P X := cd_pure (z := .bl b) (fun w σ Hb H vs s rv Q q => by
  cases rv with
  | cons r1 r2 =>
    cases r2 with
    | cons r2 r3 =>
      cases r3
      have e2 : _ = V.ref p := r2
      subst e2
      cases r1 with
      | @exc a _ ha => exact ⟨a, He.ga K C, .ref p, .ref p, b, rfl, s.sub _ _ ha, hC, fun u hu => hu, hk, q _ (.bl b)⟩) k
theorem cd_isExcT {C : Str} {n : String} {b : Bool} (hC : ExcC K (He.ga K C)) (hk : PySem.W.kitOne K (.ref (He.ga K C)) (.type n) = some b) (k : P (.d (.bl b)) δ) : CD K E (rIsExc K) [.d (.exc C), .t n] δ P X := cd_pure (z := .bl b) (fun w σ Hb H vs s rv Q q => by
  cases rv with
  | cons r1 r2 =>
    cases r2 with
    | cons r2 r3 =>
      cases r3
      have e2 : _ = V.ty n := r2
      subst e2
      cases r1 with
      | @exc a _ ha => exact ⟨a, He.ga K C, .ty n, .type n, b, rfl, s.sub _ _ ha, hC, fun u hu => hu, hk, q _ (.bl b)⟩) k
/-- raise C('..') -/
def tRz (E : XK) (C : Addr) : TS := fun _ _ H => E (.ref C) none H
theorem t_raise {E' : XK} {C : Str} (k : X C δ) : T K (fun c d _ H => E' c d H) (tRz E' (He.ga K C)) δ N R X := fun w σ Hb H D s n r e => e σ C δ w Hb H k s (Fm.refl _ _ _)
/-- try: body, except c as e: held = e -/
def tTry (K : PySem.W.Frag) (c : Value) (ie ih : Nat) (Wout : WX) (tb : WX → TS) : TS := fun D σ H => tb (wKeep K c ie (fun _ _ _ => tAsg (tVar ie) (gName ih)) Wout D) D σ H
theorem t_try {c : Value} {ie ih : Nat} {Wout : WX} {tb : WX → TS} (h : ∀ E', T K E' (tb E') δ N R (fun C δ' => PySem.W.exmOne K (.ref (He.ga K C)) c = some true ∧ ie < δ'.length ∧ N (((δ'.set ie (some (.d (.exc C)))).set ih (some (.d (.exc C)))).set ie none))) :
    T K E (tTry K c ie ih Wout tb) δ N R X := fun w σ Hb H D s n r e => by
  refine h _ w σ Hb H D s n r fun σ' C δ' w' Hb' H' ⟨k1, k2, k3⟩ s' f' => ?_
  refine ⟨true, k1, rfl, fun _ a ha => ?_, fun z => nomatch z⟩
  have hl : ie < σ'.length := by rw [← s'.len]; exact k2
  refine ⟨.ref a, List.getElem?_set_self hl, ha, ?_⟩
  obtain ⟨s1, f1⟩ := s'.new (o := ExH (.ref (He.ga K C)) a) ha
  have rx : Rp K (upd Hb' a (ExH (.ref (He.ga K C)) a)) (.ref a) (.exc C) := .exc upd_same
  exact n _ _ _ _ _ k3 (((s1.set (i := ie) rx).set (i := ih) rx).forget2 ie) (f'.trans f1)
end
end Cr

namespace Cr
open PySem PySem.Spec PyProof.Rows L2
abbrev rPlus : R2 := rI0 fun i j => .int (i + j)
abbrev rMinus : R2 := rI0 fun i j => .int (i - j)
abbrev rTimes : R2 := rI CMul fun i j => .int (i * j)
abbrev rFd : R2 := rI CDiv fun i j => .int (i / j)
abbrev rMd : R2 := rI (fun _ j => 0 < j) fun i j => .int (i % j)
abbrev rPw : R2 := rI CPow fun i j => .int (i ^ j.toNat)
abbrev rLt' : R2 := rI0 fun i j => .bl (decide (i < j))
abbrev rLe' : R2 := rI0 fun i j => .bl (decide (i ≤ j))
abbrev rGt' : R2 := rI0 fun i j => .bl (decide (j < i))
abbrev rGe' : R2 := rI0 fun i j => .bl (decide (j ≤ i))
/-- a def of the top, by its name -/
structure Fn (P : Program) (w : World) (K : PySem.W.Frag) (mg : Str → Option Value) (base : Heap) (CX : CXT) (k : Nat) (x : Str) (ps : List Str) (sp : Sp) : Prop where
  ex : ∃ fd, FnOk P w K mg base CX k (He.ga K x) fd ps sp ∧ Binds K fd ps [] ∧ (∃ oc od osl, K.lookup (He.ga K x) = some ⟨oc, od, .func fd, osl⟩) ∧ ∀ (s : Shared) (us : List Value), us.length = ps.length → BindsTo s fd ⟨us, []⟩ (ps.zip us)
  mg_ : mg x = some (.ref (He.ga K x))
  kp : PySem.W.keepIn K (.ref (He.ga K x)) = true
section
variable {P : Program} {w : World} {K : PySem.W.Frag} {mg : Str → Option Value} {base : Heap}
theorem fn_mk {CX : CXT} {x : Str} {N ps : List Str} {k : Nat} {sp : Sp} {pa : Arguments} {bd : List Stmt} {sc : Scope} (D : ∃ fd, FunD K x x pa bd sc [] [] (He.ga K x) fd) (hm : mg x = some (.ref (He.ga K x))) (S : FnScope N ps sc)
    (hb : ∀ (kV doc pm : Value) (an : Option Addr) (cdv ct : Value) (us : List Value), us.length = ps.length → bindArgs (PySem.W.fnOf x x pa bd sc .none kV doc pm an cdv ct) ⟨us, []⟩ = pure (ps.zip us)) (len : ∀ vs H Q E, sp vs H Q E → vs.length = ps.length)
    (hbody : ∀ (fd : FuncData) (cdv : Value) (A : Around) (outer : List Env) (s : Shared) (H : Hp) (vs : List V) (Q : VK) (E : XK), Room k (A.deeper (envOfC x sc s.heap.objs.size (He.ga K x) cdv)) → sp vs H Q E →
      ∃ t, PSs (cxOf CX P w K mg base N x sc (He.ga K x) cdv A outer s H E) bd t ∧ t { nx := fun _ H' => Q .non H', rt := Q } (L2.start N vs) H) : Fn P w K mg base CX (k + 1) x ps sp := by
  obtain ⟨fd, F⟩ := D
  exact ⟨⟨fd, F.ok S len fun cdv A outer s H vs Q E hr h => hbody fd cdv A outer s H vs Q E hr h, F.bindsN hb, (by obtain ⟨oc, od, dV, kV, doc, pm, an, cdv, ct, osl, _, lk, _⟩ := F.ex; exact ⟨oc, od, osl, lk⟩), fun s us hl => FunD.bindsA (ps := ps) F hb s us hl⟩, hm, F.kp⟩
end
section
variable {X : Cx} {CX : CXT} {k j : Nat} {x : Str} {ps : List Str} {sp : Sp} {E : XK} {e : Expr} {es : List Expr} {t : TA} {p pos : Pos}
theorem pc (F : Fn X.prog X.w X.K X.mg X.base CX k x ps sp) (hr : Room j X.A) (hj : k ≤ j) (hg : Gl X x) (hx : Passes CX X E) (ha : PA X (e :: es) t) (hdb : (x == ("__debug__" : Str)) = false := by decide) (he : starEach (e :: es) X.env = (false, eval e X.env) :: starEach es X.env := by rfl)
    (hpl : (backTo pos (starEach es X.env)).any (·.1) = false := by rfl) : PE X (.Call (.Name x p) (e :: es) [] pos) (tCall sp [] E t) := by
  obtain ⟨⟨fd, h, b, _⟩, hm, kp⟩ := F
  exact pe_call h (hr.mono hj) hg hm kp b .nil hx ha hdb he hpl
theorem pc0 (F : Fn X.prog X.w X.K X.mg X.base CX k x ps sp) (hr : Room j X.A) (hj : k ≤ j) (hg : Gl X x) (hx : Passes CX X E) (hdb : (x == ("__debug__" : Str)) = false := by decide) : PE X (.Call (.Name x p) [] [] pos) (tCall sp [] E tNil) := by
  obtain ⟨⟨fd, h, b, _⟩, hm, kp⟩ := F
  exact pe_call0 h (hr.mono hj) hg hm kp b .nil hx hdb
theorem pcS {E : L2.St → XK} (F : Fn X.prog X.w X.K X.mg X.base CX k x ps sp) (hr : Room j X.A) (hj : k ≤ j) (hg : Gl X x) (hx : ∀ σ, PassesAt CX X σ (E σ)) (ha : PA X (e :: es) t) (hdb : (x == ("__debug__" : Str)) = false := by decide) (he : starEach (e :: es) X.env = (false, eval e X.env) :: starEach es X.env := by rfl)
    (hpl : (backTo pos (starEach es X.env)).any (·.1) = false := by rfl) : PE X (.Call (.Name x p) (e :: es) [] pos) (tCallS sp E t) := by
  obtain ⟨⟨fd, h, b, _⟩, hm, kp⟩ := F
  exact pe_callS h (hr.mono hj) hg hm kp b hx ha hdb he hpl
theorem pe_gi {i : Int} (hg : Gl X x) (hm : ∃ t, X.mg x = some (.int i t)) (hd : (x == ("__debug__" : Str)) = false := by decide) : PE X (.Name x pos) (tC (.int i)) := by
  obtain ⟨t, hm⟩ := hm
  exact pe_glob hg hm ⟨t, rfl⟩ hd
theorem pe_gs {z : Str} (hg : Gl X x) (hm : ∃ t, X.mg x = some (.str z t)) (hd : (x == ("__debug__" : Str)) = false := by decide) : PE X (.Name x pos) (tC (.str z)) := by
  obtain ⟨t, hm⟩ := hm
  exact pe_glob hg hm ⟨t, rfl⟩ hd
/-- a def of the text that raises lets its callees' exceptions go on -/
theorem passG {E : XK} (tk : Takes X (fun c d _ H => E c d H)) : Passes (L2.CX X.prog X.w) X E := passes_call tk fun _ _ _ _ h => h
end
/-- an own exception class, as raise asks it -/
structure ExK (K : PySem.W.Frag) (mg : Str → Option Value) (x : Str) : Prop where
  m : mg x = some (.ref (He.ga K x))
  xi : PySem.W.excIn K (He.ga K x) He.veBase "ValueError.__new__" = true
  k : PySem.W.keepIn K (.ref (He.ga K x)) = true
  b : PySem.W.subIn K (.ref (He.ga K x)) (.type "BaseException") = some true
  t : PySem.W.typeIn K (.ref (He.ga K x)) = some (.type "type")
theorem ps_rz {X : Cx} {E : XK} {x m : Str} {j : Nat} {p p2 pos pos' : Pos} (hc : X.calm = true) (tk : Takes X (fun c d _ H => E c d H)) (h : ExK X.K X.mg x) (hg : Gl X x) (hdb : (x == ("__debug__" : Str)) = false := by decide) :
    PS X (.Raise (some (.Call (.Name x p) [.Constant (.str m) j p2] [] pos)) none pos') (tRz E (He.ga X.K x)) :=
  ps_raise hc tk (pmk_own PySem.F.excBase_ValueError h.xi h.m h.k (raises_own h.b h.t) hg hdb)
end Cr

namespace Cr
open PySem L2
local macro_rules | `(tactic| walk_at "x") => `(tactic| first | with_reducible refine t_seq ?_ | with_reducible refine t_ret ?_ | with_reducible refine t_set ?_ | with_reducible refine t_drop ?_ | with_reducible refine t_if ?_ | with_reducible refine t_next ?_ | with_reducible refine t_raise ?_ | with_reducible refine t_asg ?_ | with_reducible refine t_retN ?_ | with_reducible refine w_op ?_ | ((with_reducible refine' w_var ?h ?_); (case h => rfl)) | ((with_reducible refine' w_own ?h ?_); (case h => rfl)) | with_reducible refine w_int ?_ | with_reducible refine w_bl ?_ | with_reducible refine w_non ?_ | with_reducible refine w_if ?_ | with_reducible refine w_andV ?_ | with_reducible refine w_orV ?_ | with_reducible refine w_notV ?_ | with_reducible refine w_tup ?_ | with_reducible refine w_lst ?_ | with_reducible refine w_cb ?_ | with_reducible refine w_chain ?_ | with_reducible refine w_slS ?_ | with_reducible refine w_slL ?_ | with_reducible refine w_find1 ?_ | with_reducible refine w_find2 ?_ | with_reducible refine w_rfind1 ?_ | with_reducible refine w_rfind3 ?_ | with_reducible refine w_neg ?_ | with_reducible refine w_ref ?_ | with_reducible refine w_ty ?_ | with_reducible refine wt_test ?_ | with_reducible refine wt_B ?_ | with_reducible refine wt_and ?_ | with_reducible refine wt_or ?_ | with_reducible refine wt_not ?_ | with_reducible refine wt_yes ?_ | with_reducible refine wd_nil ?_ | with_reducible refine wd_cons ?_ | with_reducible refine wa_nil ?_ | with_reducible refine wa_cons ?_ | with_reducible refine wo_none ?_ | with_reducible refine wo_some ?_ | with_reducible refine rd_I0i ?_ | with_reducible refine rd_I0b ?_ | with_reducible refine rd_eqI ?_ | with_reducible refine rd_neI ?_ | with_reducible refine rd_eqS ?_ | with_reducible refine rd_neS ?_ | with_reducible refine rd_isN ?_ | with_reducible refine rd_notN ?_ | with_reducible refine rd_inSign ?_ | with_reducible refine cd_lenL ?_ | with_reducible refine cd_lenT ?_ | with_reducible refine cd_lenR ?_ | with_reducible refine cd_abs ?_ | with_reducible refine cd_max2 ?_ | with_reducible refine cd_min2 ?_ | with_reducible refine cd_intB ?_ | with_reducible refine cd_ord ?_ | with_reducible refine g_name ?_ | with_reducible refine ⟨_, rfl, ?_⟩)
local macro_rules | `(tactic| walk_at "xs") => `(tactic| repeat (first | with_reducible refine t_seq ?_ | with_reducible refine t_ret ?_ | with_reducible refine t_set ?_ | with_reducible refine t_drop ?_ | with_reducible refine t_if ?_ | with_reducible refine t_next ?_ | with_reducible refine t_raise ?_ | with_reducible refine t_asg ?_ | with_reducible refine t_retN ?_ | with_reducible refine w_op ?_ | ((with_reducible refine' w_var ?h ?_); (case h => rfl)) | ((with_reducible refine' w_own ?h ?_); (case h => rfl)) | with_reducible refine w_int ?_ | with_reducible refine w_bl ?_ | with_reducible refine w_non ?_ | with_reducible refine w_if ?_ | with_reducible refine w_andV ?_ | with_reducible refine w_orV ?_ | with_reducible refine w_notV ?_ | with_reducible refine w_tup ?_ | with_reducible refine w_lst ?_ | with_reducible refine w_cb ?_ | with_reducible refine w_chain ?_ | with_reducible refine w_slS ?_ | with_reducible refine w_slL ?_ | with_reducible refine w_find1 ?_ | with_reducible refine w_find2 ?_ | with_reducible refine w_rfind1 ?_ | with_reducible refine w_rfind3 ?_ | with_reducible refine w_neg ?_ | with_reducible refine w_ref ?_ | with_reducible refine w_ty ?_ | with_reducible refine wt_test ?_ | with_reducible refine wt_B ?_ | with_reducible refine wt_and ?_ | with_reducible refine wt_or ?_ | with_reducible refine wt_not ?_ | with_reducible refine wt_yes ?_ | with_reducible refine wd_nil ?_ | with_reducible refine wd_cons ?_ | with_reducible refine wa_nil ?_ | with_reducible refine wa_cons ?_ | with_reducible refine wo_none ?_ | with_reducible refine wo_some ?_ | with_reducible refine rd_I0i ?_ | with_reducible refine rd_I0b ?_ | with_reducible refine rd_eqI ?_ | with_reducible refine rd_neI ?_ | with_reducible refine rd_eqS ?_ | with_reducible refine rd_neS ?_ | with_reducible refine rd_isN ?_ | with_reducible refine rd_notN ?_ | with_reducible refine rd_inSign ?_ | with_reducible refine cd_lenL ?_ | with_reducible refine cd_lenT ?_ | with_reducible refine cd_lenR ?_ | with_reducible refine cd_abs ?_ | with_reducible refine cd_max2 ?_ | with_reducible refine cd_min2 ?_ | with_reducible refine cd_intB ?_ | with_reducible refine cd_ord ?_ | with_reducible refine g_name ?_ | with_reducible refine ⟨_, rfl, ?_⟩ | simp only [List.set_cons_succ, List.set_cons_zero]))

/-! ### the law's draws -/
def f_cell : FP := fun ds R _ => ∃ (ns : List Int) (k : Int), ds = [.scr ns, .int k] ∧ ∀ v, R (.int v)
abbrev sp__law_cell (K : PySem.W.Frag) : Sp := SpOf K (PF f_cell)
def t__law_cell (K : PySem.W.Frag) (E : XK) : TS := (tSeq (tIfS (tTruth K (tVar 0)) (tRet (tOp (rIxL K) (tVar 0) (tOp rMd (tVar 1) (tCB (rLen K) (tCons (tVar 0) tNil))))) tNext)
  (tRet (tC (.int 0))))
theorem len_f_cell : ∀ ds R X, f_cell ds R X → ds.length = 2 := by
  rintro ds R X ⟨ns, k, rfl, _⟩
  rfl
theorem len__law_cell {K : PySem.W.Frag} : ∀ vs H Q E, sp__law_cell K vs H Q E → vs.length = 2 := fun _ _ _ _ h => spOf_len (pf_len len_f_cell) h
theorem ixN_ok {n : Nat} {i : Int} (h0 : 0 ≤ i) (h : i < n) : ixN n i = some i.toNat := by
  unfold ixN
  rw [if_pos h0, if_pos h]
theorem atI_ok {α : Type} {l : List α} {i : Int} (h0 : 0 ≤ i) (h : i < l.length) : ∃ v, atI l i = some v ∧ l[i.toNat]? = some v := by
  have hl : i.toNat < l.length := by omega
  refine ⟨l[i.toNat], ?_, List.getElem?_eq_getElem hl⟩
  unfold atI
  rw [ixN_ok h0 h]
  exact List.getElem?_eq_getElem hl
theorem pure__law_cell {K : PySem.W.Frag} {vs : List V} {H : Hp} {Q : VK} {E : XK} (h : sp__law_cell K vs H Q E) : t__law_cell K E { nx := fun _ H' => Q .non H', rt := Q } (L2.start ["script", "k"] vs) H := by
  refine bodyP (ts := t__law_cell K) 2 0 rfl len_f_cell (fun ds R X ⟨ns, k, e, hk⟩ => ?_) h
  subst e
  show T K _ (t__law_cell K E) [some (.d (.scr ns)), some (.d (.int k))] _ _ _
  unfold t__law_cell
  walk_at "xs"
  refine wt_truScr ?_
  walk_at "xs"
  refine ⟨fun hb => ?_, fun hb => ?_⟩
  · have hn : 0 < (ns.length : Int) := by
      cases ns with
      | nil => simp at hb
      | cons a r => simp
    walk_at "xs"
    refine rd_Ii hn ?_
    obtain ⟨v, hv, _⟩ := atI_ok (l := ns) (i := k % (ns.length : Int)) (Int.emod_nonneg _ (by omega)) (Int.emod_lt_of_pos _ hn)
    exact rd_ixR hv (hk _)
  · walk_at "xs"
    exact hk _
def f_mix : FP := fun ds R _ => ∃ (ns : List Int) (k : Int), ds = [.scr ns, .int k] ∧ 0 ≤ k ∧ k ≤ 16000000 ∧ ∀ v, 0 ≤ v → v < 4294967231 → R (.int v)
abbrev sp__law_mix (K : PySem.W.Frag) : Sp := SpOf K (PF f_mix)
def t__law_mix (K : PySem.W.Frag) (E : XK) : TS := (tSeq (tAsg (tOp rMd (tOp rPlus (tCall (sp__law_cell K) [] L2.E0 (tCons (tVar 0) (tCons (tVar 1) tNil))) (tOp rTimes (tC (.int 104729)) (tOp rPlus (tVar 1) (tC (.int 1))))) (tC (.int 4294967291))) (gName 2))
  (tSeq (tAsg (tOp rMd (tOp rPw (tVar 2) (tC (.int 5))) (tC (.int 4294967279))) (gName 2))
  (tRet (tOp rMd (tOp rPlus (tOp rTimes (tOp rFd (tVar 2) (tC (.int 64))) (tC (.int 69621))) (tVar 2)) (tC (.int 4294967231))))))
theorem len_f_mix : ∀ ds R X, f_mix ds R X → ds.length = 2 := by
  rintro ds R X ⟨ns, k, rfl, _⟩
  rfl
theorem len__law_mix {K : PySem.W.Frag} : ∀ vs H Q E, sp__law_mix K vs H Q E → vs.length = 2 := fun _ _ _ _ h => spOf_len (pf_len len_f_mix) h
theorem pure__law_mix {K : PySem.W.Frag} {vs : List V} {H : Hp} {Q : VK} {E : XK} (h : sp__law_mix K vs H Q E) : t__law_mix K E { nx := fun _ H' => Q .non H', rt := Q } (L2.start ["script", "k", "number"] vs) H := by
  refine bodyP (ts := t__law_mix K) 2 1 rfl len_f_mix (fun ds R X ⟨ns, k, e, h0, h1, hk⟩ => ?_) h
  subst e
  show T K _ (t__law_mix K E) [some (.d (.scr ns)), some (.d (.int k)), none] _ _ _
  unfold t__law_mix
  walk_at "xs"
  refine w_fn ?_
  walk_at "xs"
  refine ⟨ns, k, rfl, fun v => ?_⟩
  walk_at "xs"
  refine rd_Ii (.inl (by omega)) ?_
  walk_at "xs"
  refine rd_Ii (by decide) ?_
  walk_at "xs"
  generalize hn : (v + 104729 * (k + 1)) % 4294967291 = n
  have n0 : 0 ≤ n := by rw [← hn]; exact Int.emod_nonneg _ (by decide)
  have n1 : n < 4294967291 := by rw [← hn]; exact Int.emod_lt_of_pos _ (by decide)
  refine rd_Ii ⟨by decide, by decide, by omega⟩ ?_
  walk_at "xs"
  refine rd_Ii (by decide) ?_
  walk_at "xs"
  generalize hm : n ^ (5 : Int).toNat % 4294967279 = m
  have m0 : 0 ≤ m := by rw [← hm]; exact Int.emod_nonneg _ (by decide)
  have m1 : m < 4294967279 := by rw [← hm]; exact Int.emod_lt_of_pos _ (by decide)
  refine rd_Ii ⟨by decide, by decide⟩ ?_
  walk_at "xs"
  refine rd_Ii (.inr (by decide)) ?_
  walk_at "xs"
  refine rd_Ii (by decide) ?_
  exact hk _ (Int.emod_nonneg _ (by decide)) (Int.emod_lt_of_pos _ (by decide))
/-- the list of draws so far -/
def twn (K : PySem.W.Frag) (n : Nat) : OwnA := olst K (List.replicate n (.int 0))
def f_draw (K : PySem.W.Frag) : FS := fun ys R _ => ∃ (ns : List Int) (p : Addr) (n : Nat) (m : Int), ys = [.d (.scr ns), .o p (twn K n), .d (.int m)] ∧ n < 80000 ∧ 0 < m ∧ m < 1000000 ∧ ∀ v, 0 ≤ v → v < m → R (.int v) [none, some (.o p (twn K (n + 1))), none]
abbrev sp__law_draw (K : PySem.W.Frag) : Sp := SpOf K (f_draw K)
def t__law_draw (K : PySem.W.Frag) (E : XK) : TS := (tSeq (tDrop (tBM K "list" rAppend (tVar 1) (tCons (tC (.int 0)) tNil)))
  (tRet (tOp rMd (tOp rFd (tCall (sp__law_mix K) [] L2.E0 (tCons (tVar 0) (tCons (tCB (rLen K) (tCons (tVar 1) tNil)) tNil))) (tC (.int 8))) (tVar 2))))
theorem len_f_draw {K : PySem.W.Frag} : ∀ ys R X, f_draw K ys R X → ys.length = 3 := by
  rintro ds R X ⟨ns, p, n, m, rfl, _⟩
  rfl
theorem len__law_draw {K : PySem.W.Frag} : ∀ vs H Q E, sp__law_draw K vs H Q E → vs.length = 3 := fun _ _ _ _ h => spOf_len len_f_draw h
theorem pure__law_draw {K : PySem.W.Frag} {vs : List V} {H : Hp} {Q : VK} {E : XK} (h : sp__law_draw K vs H Q E) : t__law_draw K E { nx := fun _ H' => Q .non H', rt := Q } (L2.start ["script", "town", "many"] vs) H := by
  refine body (ts := t__law_draw K) 3 0 rfl len_f_draw (fun ys R X ⟨ns, p, n, m, e, hn, m0, m1, hk⟩ => ?_) h
  subst e
  show T K _ (t__law_draw K E) [some (.d (.scr ns)), some (.o p (twn K n)), some (.d (.int m))] _ _ _
  unfold t__law_draw
  walk_at "xs"
  refine w_append ?_
  walk_at "xs"
  refine ⟨p, 1, rfl, ⟨_, rfl⟩, ?_⟩
  walk_at "xs"
  refine ⟨_, _, rfl, rfl, by simp; omega, ?_⟩
  walk_at "xs"
  refine w_fn ?_
  walk_at "xs"
  refine cd_lenO (i := 1) rfl ?_
  walk_at "xs"
  refine ⟨ns, _, rfl, by omega, by simp; omega, fun v v0 v1 => ?_⟩
  walk_at "xs"
  refine rd_Ii ⟨by decide, by decide⟩ ?_
  walk_at "xs"
  refine rd_Ii m0 ?_
  refine ⟨?_, rfl, trivial⟩
  have e1 : (List.replicate n (Da.int 0) ++ [Da.int 0]) = List.replicate (n + 1) (Da.int 0) := List.replicate_succ'.symm
  have := hk (v / 8 % m) (Int.emod_nonneg _ (by omega)) (Int.emod_lt_of_pos _ m0)
  unfold twn at this
  rw [← e1] at this
  exact this
def f_pick (K : PySem.W.Frag) : FS := fun ys R _ => ∃ (ns : List Int) (p : Addr) (n : Nat) (ds : List Da), ys = [.d (.scr ns), .o p (twn K n), .d (.lst ds)] ∧ n < 80000 ∧ 0 < ds.length ∧ ds.length < 1000 ∧ ∀ d, d ∈ ds → R d [none, some (.o p (twn K (n + 1))), none]
abbrev sp__law_pick (K : PySem.W.Frag) : Sp := SpOf K (f_pick K)
def t__law_pick (K : PySem.W.Frag) (E : XK) : TS := (tRet (tOp (rIxL K) (tVar 2) (tCall (sp__law_draw K) [] L2.E0 (tCons (tVar 0) (tCons (tVar 1) (tCons (tCB (rLen K) (tCons (tVar 2) tNil)) tNil))))))
theorem len_f_pick {K : PySem.W.Frag} : ∀ ys R X, f_pick K ys R X → ys.length = 3 := by
  rintro ds R X ⟨ns, p, n, m, rfl, _⟩
  rfl
theorem len__law_pick {K : PySem.W.Frag} : ∀ vs H Q E, sp__law_pick K vs H Q E → vs.length = 3 := fun _ _ _ _ h => spOf_len len_f_pick h
/-- a draw, from within a def of the law -/
theorem uq3 {x z : Da} {p : Addr} {A : OwnA} : Uq [.d x, .o p A, .d z] := by
  rintro (_ | _ | _ | i) (_ | _ | _ | j) q B C h1 h2 <;> simp_all
theorem cl_draw {K : PySem.W.Frag} {δ : Dl} {P : PX} {X : XX} {ns : List Int} {p : Addr} {n i : Nat} {m : Int} (hi : δ[i]? = some (some (.o p (twn K n)))) (hn : n < 80000) (m0 : 0 < m) (m1 : m < 1000000)
    (k : ∀ v, 0 ≤ v → v < m → P (.d (.int v)) (δ.set i (some (.o p (twn K (n + 1)))))) : Cl (f_draw K) [.d (.scr ns), .a p, .d (.int m)] δ P X :=
  ⟨_, [none, some i, none], .d (.o hi (.d .nil)), uq3, ns, p, n, m, rfl, hn, m0, m1, fun v v0 v1 => k v v0 v1⟩
theorem cl_pick {K : PySem.W.Frag} {δ : Dl} {P : PX} {X : XX} {ns : List Int} {p : Addr} {n i : Nat} {ds : List Da} (hi : δ[i]? = some (some (.o p (twn K n)))) (hn : n < 80000) (m0 : 0 < ds.length) (m1 : ds.length < 1000)
    (k : ∀ d, d ∈ ds → P (.d d) (δ.set i (some (.o p (twn K (n + 1)))))) : Cl (f_pick K) [.d (.scr ns), .a p, .d (.lst ds)] δ P X :=
  ⟨_, [none, some i, none], .d (.o hi (.d .nil)), uq3, ns, p, n, ds, rfl, hn, m0, m1, fun d hd => k d hd⟩
theorem pure__law_pick {K : PySem.W.Frag} {vs : List V} {H : Hp} {Q : VK} {E : XK} (h : sp__law_pick K vs H Q E) : t__law_pick K E { nx := fun _ H' => Q .non H', rt := Q } (L2.start ["script", "town", "some"] vs) H := by
  refine body (ts := t__law_pick K) 3 0 rfl len_f_pick (fun ys R X ⟨ns, p, n, ds, e, hn, m0, m1, hk⟩ => ?_) h
  subst e
  show T K _ (t__law_pick K E) [some (.d (.scr ns)), some (.o p (twn K n)), some (.d (.lst ds))] _ _ _
  unfold t__law_pick
  walk_at "xs"
  refine w_call ?_
  walk_at "xs"
  refine cl_draw (i := 1) rfl hn (by omega) (by omega) fun v v0 v1 => ?_
  obtain ⟨d, hd, hd2⟩ := atI_ok (l := ds) v0 v1
  refine rd_ixL hd ⟨hk d (List.mem_of_getElem? hd2), rfl, trivial⟩

/-! ### refusals -/
def excName : Str → List Nat := fun C => if C = "BadText" then [116, 101, 120, 116] else if C = "BadSize" then [115, 105, 122, 101] else if C = "BadPlace" then [112, 108, 97, 99, 101] else [109, 111, 118, 101]
def sRef : List Nat := [114, 101, 102, 117, 115, 101, 100]
def refu (C : Str) : Da := .tup [.str sRef, .str (excName C)]
/-- what the classes of errors say to isinstance -/
structure ExF (K : PySem.W.Frag) (C : Str) : Prop where
  c : ExcC K (He.ga K C)
  k1 : PySem.W.kitOne K (.ref (He.ga K C)) (.ref (He.ga K "BadText")) = some (decide (C = "BadText"))
  k2 : PySem.W.kitOne K (.ref (He.ga K C)) (.ref (He.ga K "BadSize")) = some (decide (C = "BadSize"))
  k3 : PySem.W.kitOne K (.ref (He.ga K C)) (.ref (He.ga K "BadPlace")) = some (decide (C = "BadPlace"))
  k4 : PySem.W.kitOne K (.ref (He.ga K C)) (.ref (He.ga K "BadMove")) = some (decide (C = "BadMove"))
  kv : PySem.W.kitOne K (.ref (He.ga K C)) (.type "ValueError") = some true
  ex : PySem.W.exmOne K (.ref (He.ga K C)) (.ref (He.ga K "CaretError")) = some true
structure XFs (K : PySem.W.Frag) : Prop where
  t : ExF K "BadText"
  s : ExF K "BadSize"
  p : ExF K "BadPlace"
  m : ExF K "BadMove"
def four : List Str := ["BadText", "BadSize", "BadPlace", "BadMove"]
def f_refusal (K : PySem.W.Frag) : FP := fun ds R _ => ∃ C : Str, ds = [.exc C] ∧ C ∈ four ∧ ExF K C ∧ R (refu C)
abbrev sp__law_refusal (K : PySem.W.Frag) : Sp := SpOf K (PF (f_refusal K))
def t__law_refusal (K : PySem.W.Frag) (E : XK) : TS := (tSeq (tIfS (tTest (tOp rIsNone (tVar 0) (tC .non))) (tRet (tTup (tCons (tC (.str "ok")) tNil))) tNext)
  (tSeq (tAsgN (tLst (tCons (tCB (rIsExc K) (tCons (tVar 0) (tCons (tC (.ref (He.ga K "BadText"))) tNil))) (tCons (tCB (rIsExc K) (tCons (tVar 0) (tCons (tC (.ref (He.ga K "BadSize"))) tNil))) (tCons (tCB (rIsExc K) (tCons (tVar 0) (tCons (tC (.ref (He.ga K "BadPlace"))) tNil))) tNil)))) (gName 1))
  (tSeq (tDrop (tBM K "list" rAppend (tVar 1) (tCons (tCB (rIsExc K) (tCons (tVar 0) (tCons (tC (.ref (He.ga K "BadMove"))) tNil))) tNil)))
  (tSeq (tIfS (tOr (tTest (tOp rNe (tBM K "list" (rCount K) (tVar 1) (tCons (tC (.bl true)) tNil)) (tC (.int 1)))) (tNot (tB (tCB (rIsExc K) (tCons (tVar 0) (tCons (tC (.ty "ValueError")) tNil)))))) (tRet (tTup (tCons (tC (.str "wrong")) tNil))) tNext)
  (tRet (tTup (tCons (tC (.str "refused")) (tCons (tOp (rIxL K) (tLst (tCons (tC (.str "text")) (tCons (tC (.str "size")) (tCons (tC (.str "place")) (tCons (tC (.str "move")) tNil))))) (tBM K "list" (rIndex K) (tVar 1) (tCons (tC (.bl true)) tNil))) tNil))))))))
theorem len_f_refusal {K : PySem.W.Frag} : ∀ ds R X, f_refusal K ds R X → ds.length = 1 := by
  rintro ds R X ⟨C, rfl, _⟩
  rfl
theorem len__law_refusal {K : PySem.W.Frag} : ∀ vs H Q E, sp__law_refusal K vs H Q E → vs.length = 1 := fun _ _ _ _ h => spOf_len (pf_len len_f_refusal) h
theorem pure__law_refusal {K : PySem.W.Frag} {vs : List V} {H : Hp} {Q : VK} {E : XK} (h : sp__law_refusal K vs H Q E) : t__law_refusal K E { nx := fun _ H' => Q .non H', rt := Q } (L2.start ["held", "kinds"] vs) H := by
  refine bodyP (ts := t__law_refusal K) 1 1 rfl len_f_refusal (fun ds R X ⟨C, e, hC, F, hk⟩ => ?_) h
  subst e
  show T K _ (t__law_refusal K E) [some (.d (.exc C)), none] _ _ _
  unfold t__law_refusal
  walk_at "xs"
  refine ⟨(fun hb => nomatch hb), fun _ => ?_⟩
  refine t_next (t_seq (t_newL ?_))
  walk_at "xs"
  refine cd_isExc F.c F.k1 ?_
  walk_at "xs"
  refine cd_isExc F.c F.k2 ?_
  walk_at "xs"
  refine cd_isExc F.c F.k3 ?_
  walk_at "xs"
  refine ⟨by show 3 ≤ 16000000; decide, fun p => ?_⟩
  walk_at "xs"
  refine w_append ?_
  walk_at "xs"
  refine ⟨p, 1, rfl, ⟨_, rfl⟩, ?_⟩
  walk_at "xs"
  refine cd_isExc F.c F.k4 ?_
  refine ⟨_, _, rfl, rfl, by show 3 < 90000; decide, ?_⟩
  walk_at "xs"
  refine w_count ?_
  walk_at "xs"
  refine ⟨p, 1, [decide (C = "BadText"), decide (C = "BadSize"), decide (C = "BadPlace"), decide (C = "BadMove")], rfl, rfl, ?_⟩
  walk_at "xs"
  have e4 : (([decide (C = "BadText"), decide (C = "BadSize"), decide (C = "BadPlace"), decide (C = "BadMove")] : List Bool).count true : Int) = 1 := by
    simp only [four, List.mem_cons, List.not_mem_nil, or_false] at hC
    rcases hC with rfl | rfl | rfl | rfl <;> decide +kernel
  refine ⟨(fun hb => by rw [e4] at hb; exact nomatch hb), fun _ => ?_⟩
  walk_at "xs"
  refine cd_isExcT F.c F.kv ?_
  walk_at "xs"
  refine ⟨(fun hb => nomatch hb), fun _ => ?_⟩
  refine t_next (t_ret (w_tup (wd_cons ?_)))
  refine w_str sRef (by decide +kernel) ⟨_, rfl, ?_⟩
  walk_at "xs"
  refine w_str [116, 101, 120, 116] (by decide +kernel) ⟨_, rfl, ?_⟩
  walk_at "xs"
  refine w_str [115, 105, 122, 101] (by decide +kernel) ⟨_, rfl, ?_⟩
  walk_at "xs"
  refine w_str [112, 108, 97, 99, 101] (by decide +kernel) ⟨_, rfl, ?_⟩
  walk_at "xs"
  refine w_str [109, 111, 118, 101] (by decide +kernel) ⟨_, rfl, ?_⟩
  walk_at "xs"
  refine ⟨by show 4 ≤ 16000000; decide, ?_⟩
  refine w_index ?_
  walk_at "xs"
  have e5 : ∃ j : Nat, ([decide (C = "BadText"), decide (C = "BadSize"), decide (C = "BadPlace"), decide (C = "BadMove")] : List Bool)[j]? = some true ∧ (∀ m c, m < j → ([decide (C = "BadText"), decide (C = "BadSize"), decide (C = "BadPlace"), decide (C = "BadMove")] : List Bool)[m]? = some c → c ≠ true) ∧ atI ([.str [116, 101, 120, 116], .str [115, 105, 122, 101], .str [112, 108, 97, 99, 101], .str [109, 111, 118, 101]] : List Da) (j : Int) = some (.str (excName C)) := by
    simp only [four, List.mem_cons, List.not_mem_nil, or_false] at hC
    rcases hC with rfl | rfl | rfl | rfl
    · have eb : ([decide (("BadText" : Str) = "BadText"), decide (("BadText" : Str) = "BadSize"), decide (("BadText" : Str) = "BadPlace"), decide (("BadText" : Str) = "BadMove")] : List Bool) = [true, false, false, false] := by decide +kernel
      rw [eb]
      exact ⟨0, rfl, fun m c hm => by omega, rfl⟩
    · have eb : ([decide (("BadSize" : Str) = "BadText"), decide (("BadSize" : Str) = "BadSize"), decide (("BadSize" : Str) = "BadPlace"), decide (("BadSize" : Str) = "BadMove")] : List Bool) = [false, true, false, false] := by decide +kernel
      rw [eb]
      refine ⟨1, rfl, fun m c hm hc => ?_, rfl⟩
      rcases m with _ | m
      · simp at hc
        simp [← hc]
      · omega
    · have eb : ([decide (("BadPlace" : Str) = "BadText"), decide (("BadPlace" : Str) = "BadSize"), decide (("BadPlace" : Str) = "BadPlace"), decide (("BadPlace" : Str) = "BadMove")] : List Bool) = [false, false, true, false] := by decide +kernel
      rw [eb]
      refine ⟨2, rfl, fun m c hm hc => ?_, rfl⟩
      rcases m with _ | _ | m
      · simp at hc
        simp [← hc]
      · simp at hc
        simp [← hc]
      · omega
    · have eb : ([decide (("BadMove" : Str) = "BadText"), decide (("BadMove" : Str) = "BadSize"), decide (("BadMove" : Str) = "BadPlace"), decide (("BadMove" : Str) = "BadMove")] : List Bool) = [false, false, false, true] := by decide +kernel
      rw [eb]
      refine ⟨3, rfl, fun m c hm hc => ?_, rfl⟩
      rcases m with _ | _ | _ | m
      · simp at hc
        simp [← hc]
      · simp at hc
        simp [← hc]
      · simp at hc
        simp [← hc]
      · omega
  obtain ⟨j, j1, j2, j3⟩ := e5
  refine ⟨p, 1, _, j, rfl, rfl, j1, j2, ?_⟩
  refine rd_ixL j3 ⟨_, rfl, ?_⟩
  walk_at "xs"
  exact ⟨by show 2 ≤ 16000000; decide, hk⟩
end Cr

namespace Cr
open PySem PySem.Spec PyProof.Rows L2
/-! ### the law's own call -/
theorem start_law {K : PySem.W.Frag} {f : FP} {H : Hp} {a : Addr} {ns : List Int} (h : ∀ (R : Da → Prop) (X : Str → Prop), R (.bl true) → f [.scr ns] R X) (hS : SqL K H a (ns.map V.int)) : SpOf K (PF f) [.ref a] H (fun v _ => v = .bl true) (fun _ _ _ => False) := by
  refine ⟨fun _ => none, H, [.d (.scr ns)], fun d _ => d = .bl true, fun _ _ => False, ⟨Same.refl _, (fun _ _ z => nomatch z), (fun _ _ z => nomatch z), fun i j p A B z _ => ?_, fun i x hx => ?_, rfl⟩, ⟨[.scr ns], rfl, h _ _ rfl⟩, fun d ys' v w' Hb' H' e _ r _ => ?_, fun _ _ _ _ _ z => z.elim⟩
  · cases i with
    | zero => cases z
    | succ i => cases z
  · cases i with
    | zero =>
      cases hx
      exact ⟨_, rfl, .scr hS⟩
    | succ i => cases hx
  · subst e
    cases r
    rfl
theorem law_end {P : Program} {w : World} {K : PySem.W.Frag} {mg : Str → Option Value} {h : Heap} {n k : Nat} {f : FP} (KX : K.In h) (F : ∀ base : Heap, Fn P w K mg base CX0 k "law" ["script"] (SpOf K (PF f))) (hf : ∀ (ns : List Int) (R : Da → Prop) (X : Str → Prop), R (.bl true) → f [.scr ns] R X) :
    ∃ (K1 : PySem.W.Frag) (fd : FuncData) (sp : Sp), K1.In h ∧ (∀ (s : Shared) (u : Value), BindsTo s fd ⟨[u], []⟩ [("script", u)]) ∧
      (∀ (H : Hp) (a : Addr) (ns : List Int), ns.length ≤ n → Only H → SqL K1 H a (ns.map V.int) → sp [.ref a] H (fun v _ => v = .bl true) fun _ _ _ => False) ∧
      ∀ base : Heap, K1.In base → base.Ns mainGlobals mg → FnOk P w K1 mg base CX0 k (He.ga K "law") fd ["script"] sp := by
  obtain ⟨⟨fd, _, _, ⟨oc, od, osl, lk⟩, bt⟩, _, _⟩ := F h
  refine ⟨K, fd, SpOf K (PF f), KX, fun s u => bt s [u] rfl, fun H a ns _ _ hS => start_law (hf ns) hS, fun base _ _ => ?_⟩
  obtain ⟨⟨fd', h1, _, ⟨oc', od', osl', lk'⟩, _⟩, _, _⟩ := F base
  rw [lk] at lk'
  cases lk'
  exact h1
/-! ### the exceptions' classes, read by the head -/
theorem excB_ok {K : PySem.W.Frag} {C : Str} (h : excB K C = true) : ExcC K (He.ga K C) := by
  obtain ⟨h1, h⟩ := He.ba h
  obtain ⟨h2, h⟩ := He.ba h
  obtain ⟨h3, h⟩ := He.ba h
  obtain ⟨h4, h⟩ := He.ba h
  obtain ⟨h5, h⟩ := He.ba h
  obtain ⟨h6, h⟩ := He.ba h
  obtain ⟨h7, h8⟩ := He.ba h
  exact ⟨He.eqO_ok h1, He.eqO_ok h2, of_decide_eq_true h3, h4, He.eqO_ok h5, He.eqO_ok h6, of_decide_eq_true h7, of_decide_eq_true h8⟩
theorem exfB_ok {K : PySem.W.Frag} {C : Str} (h : exfB K C = true) : ExF K C := by
  obtain ⟨h1, h⟩ := He.ba h
  obtain ⟨h2, h⟩ := He.ba h
  obtain ⟨h3, h⟩ := He.ba h
  obtain ⟨h4, h⟩ := He.ba h
  obtain ⟨h5, h⟩ := He.ba h
  obtain ⟨h6, h7⟩ := He.ba h
  exact ⟨excB_ok h1, of_decide_eq_true h2, of_decide_eq_true h3, of_decide_eq_true h4, of_decide_eq_true h5, of_decide_eq_true h6, of_decide_eq_true h7⟩
theorem exAll_ok {K : PySem.W.Frag} (h : exAll K = true) : XFs K := by
  obtain ⟨h1, h⟩ := He.ba h
  obtain ⟨h2, h⟩ := He.ba h
  obtain ⟨h3, h4⟩ := He.ba h
  exact ⟨exfB_ok h1, exfB_ok h2, exfB_ok h3, exfB_ok h4⟩
theorem exk_ok {K : PySem.W.Frag} {h : Heap} {mg : Str → Option Value} (X : K.In h) (G : h.Ns mainGlobals mg) {x : Str} (c0 : (He.Fa.glo x).ok K = true) (c : (He.Fa.exc x).ok K = true) : ExK K mg x := by
  obtain ⟨h1, h2, h3, h4⟩ := He.exc_ok c
  exact ⟨He.glo_ok X G c0, h1, h2, h3, h4⟩
end Cr

namespace Cr
open PySem L2
local macro_rules | `(tactic| walk_at "x") => `(tactic| first | with_reducible refine t_seq ?_ | with_reducible refine t_ret ?_ | with_reducible refine t_set ?_ | with_reducible refine t_drop ?_ | with_reducible refine t_if ?_ | with_reducible refine t_next ?_ | with_reducible refine t_raise ?_ | with_reducible refine t_asg ?_ | with_reducible refine t_retN ?_ | with_reducible refine w_op ?_ | ((with_reducible refine' w_var ?h ?_); (case h => rfl)) | ((with_reducible refine' w_own ?h ?_); (case h => rfl)) | with_reducible refine w_int ?_ | with_reducible refine w_bl ?_ | with_reducible refine w_non ?_ | with_reducible refine w_if ?_ | with_reducible refine w_andV ?_ | with_reducible refine w_orV ?_ | with_reducible refine w_notV ?_ | with_reducible refine w_tup ?_ | with_reducible refine w_lst ?_ | with_reducible refine w_cb ?_ | with_reducible refine w_chain ?_ | with_reducible refine w_slS ?_ | with_reducible refine w_slL ?_ | with_reducible refine w_find1 ?_ | with_reducible refine w_find2 ?_ | with_reducible refine w_rfind1 ?_ | with_reducible refine w_rfind3 ?_ | with_reducible refine w_neg ?_ | with_reducible refine w_ref ?_ | with_reducible refine w_ty ?_ | with_reducible refine wt_test ?_ | with_reducible refine wt_B ?_ | with_reducible refine wt_and ?_ | with_reducible refine wt_or ?_ | with_reducible refine wt_not ?_ | with_reducible refine wt_yes ?_ | with_reducible refine wd_nil ?_ | with_reducible refine wd_cons ?_ | with_reducible refine wa_nil ?_ | with_reducible refine wa_cons ?_ | with_reducible refine wo_none ?_ | with_reducible refine wo_some ?_ | with_reducible refine rd_I0i ?_ | with_reducible refine rd_I0b ?_ | with_reducible refine rd_eqI ?_ | with_reducible refine rd_neI ?_ | with_reducible refine rd_eqS ?_ | with_reducible refine rd_neS ?_ | with_reducible refine rd_isN ?_ | with_reducible refine rd_notN ?_ | with_reducible refine rd_inSign ?_ | with_reducible refine cd_lenL ?_ | with_reducible refine cd_lenT ?_ | with_reducible refine cd_lenR ?_ | with_reducible refine cd_abs ?_ | with_reducible refine cd_max2 ?_ | with_reducible refine cd_min2 ?_ | with_reducible refine cd_intB ?_ | with_reducible refine cd_ord ?_ | with_reducible refine g_name ?_ | with_reducible refine ⟨_, rfl, ?_⟩)
local macro_rules | `(tactic| walk_at "xs") => `(tactic| repeat (first | with_reducible refine t_seq ?_ | with_reducible refine t_ret ?_ | with_reducible refine t_set ?_ | with_reducible refine t_drop ?_ | with_reducible refine t_if ?_ | with_reducible refine t_next ?_ | with_reducible refine t_raise ?_ | with_reducible refine t_asg ?_ | with_reducible refine t_retN ?_ | with_reducible refine w_op ?_ | ((with_reducible refine' w_var ?h ?_); (case h => rfl)) | ((with_reducible refine' w_own ?h ?_); (case h => rfl)) | with_reducible refine w_int ?_ | with_reducible refine w_bl ?_ | with_reducible refine w_non ?_ | with_reducible refine w_if ?_ | with_reducible refine w_andV ?_ | with_reducible refine w_orV ?_ | with_reducible refine w_notV ?_ | with_reducible refine w_tup ?_ | with_reducible refine w_lst ?_ | with_reducible refine w_cb ?_ | with_reducible refine w_chain ?_ | with_reducible refine w_slS ?_ | with_reducible refine w_slL ?_ | with_reducible refine w_find1 ?_ | with_reducible refine w_find2 ?_ | with_reducible refine w_rfind1 ?_ | with_reducible refine w_rfind3 ?_ | with_reducible refine w_neg ?_ | with_reducible refine w_ref ?_ | with_reducible refine w_ty ?_ | with_reducible refine wt_test ?_ | with_reducible refine wt_B ?_ | with_reducible refine wt_and ?_ | with_reducible refine wt_or ?_ | with_reducible refine wt_not ?_ | with_reducible refine wt_yes ?_ | with_reducible refine wd_nil ?_ | with_reducible refine wd_cons ?_ | with_reducible refine wa_nil ?_ | with_reducible refine wa_cons ?_ | with_reducible refine wo_none ?_ | with_reducible refine wo_some ?_ | with_reducible refine rd_I0i ?_ | with_reducible refine rd_I0b ?_ | with_reducible refine rd_eqI ?_ | with_reducible refine rd_neI ?_ | with_reducible refine rd_eqS ?_ | with_reducible refine rd_neS ?_ | with_reducible refine rd_isN ?_ | with_reducible refine rd_notN ?_ | with_reducible refine rd_inSign ?_ | with_reducible refine cd_lenL ?_ | with_reducible refine cd_lenT ?_ | with_reducible refine cd_lenR ?_ | with_reducible refine cd_abs ?_ | with_reducible refine cd_max2 ?_ | with_reducible refine cd_min2 ?_ | with_reducible refine cd_intB ?_ | with_reducible refine cd_ord ?_ | with_reducible refine g_name ?_ | with_reducible refine ⟨_, rfl, ?_⟩ | simp only [List.set_cons_succ, List.set_cons_zero]))
/-! ### texts -/
def okSign (c : Nat) : Bool := decide ((32 ≤ c ∧ c < 127 ∧ c ≠ 37) ∨ c = 10)
def isText (l : List Nat) : Bool := decide (l.length ≤ 2000) && l.all okSign
def f_is_text : FP := fun ds R _ => ∃ l : List Nat, ds = [.str l] ∧ l.length ≤ 16000000 ∧ R (.bl (isText l))
abbrev sp_is_text (K : PySem.W.Frag) : Sp := SpOf K (PF f_is_text)
def t_is_text (K : PySem.W.Frag) (E : XK) : TS := (tSeq (tIfS (tTest (tOp rGt' (tCB (rLen K) (tCons (tVar 0) tNil)) (tC (.int 2000)))) (tRet (tC (.bl false))) tNext)
  (tRet (tCB (rAll K) (tCons (tLc (iStr (tVar 0)) (gName 1) tYes (tOrV (tAndV (tChain rLe' rLt' (tC (.int 32)) (tCB rOrd (tCons (tVar 1) tNil)) (tC (.int 127))) (tOp rNe (tCB rOrd (tCons (tVar 1) tNil)) (tC (.int 37)))) (tOp rEq (tVar 1) (tC (.str "\n")))) [1]) tNil))))
theorem len_f_is_text : ∀ ds R X, f_is_text ds R X → ds.length = 1 := by
  rintro ds R X ⟨l, rfl, _⟩
  rfl
theorem len_is_text {K : PySem.W.Frag} : ∀ vs H Q E, sp_is_text K vs H Q E → vs.length = 1 := fun _ _ _ _ h => spOf_len (pf_len len_f_is_text) h
theorem noneAt1 {δ : Dl} {i : Nat} (h : δ[i]? = some none) : NoneAt δ [i] := fun v hv x e => by
  have : v = i := by simpa using hv
  rw [this, h] at e
  cases e
theorem signs_map (l : List Nat) (g : Nat → Da) (f : Da → Option Da) (h : ∀ c, f (.str [c]) = some (g c)) : (l.map fun c => Da.str [c]).filterMap f = l.map g := by
  induction l with
  | nil => rfl
  | cons a r ih => rw [List.map_cons, List.filterMap_cons, h, ih]; rfl
theorem signs_get {l : List Nat} {i : Nat} {d : Da} (h : (l.map fun c => Da.str [c])[i]? = some d) : ∃ c, l[i]? = some c ∧ d = .str [c] := by
  rw [List.getElem?_map] at h
  cases e : l[i]? with
  | none => rw [e] at h; cases h
  | some c => rw [e] at h; exact ⟨c, rfl, (Option.some.inj h).symm⟩
theorem pure_is_text {K : PySem.W.Frag} {vs : List V} {H : Hp} {Q : VK} {E : XK} (h : sp_is_text K vs H Q E) : t_is_text K E { nx := fun _ H' => Q .non H', rt := Q } (L2.start ["text", "sign"] vs) H := by
  refine bodyP (ts := t_is_text K) 1 1 rfl len_f_is_text (fun ds R X ⟨l, e, hl, hk⟩ => ?_) h
  subst e
  show T K _ (t_is_text K E) [some (.d (.str l)), none] _ _ _
  unfold t_is_text
  walk_at "xs"
  refine cd_lenS hl ?_
  walk_at "xs"
  refine ⟨fun hb => ?_, fun hb => ?_⟩
  · walk_at "xs"
    have : isText l = false := by
      unfold isText
      rw [decide_eq_false (by have := of_decide_eq_true hb; omega)]
      rfl
    rw [this] at hk
    exact hk
  · walk_at "xs"
    refine w_lcP (fun d => match d with | .str [c] => some (.bl (okSign c)) | _ => none) (wi_str ?_)
    walk_at "xs"
    refine ⟨noneAt1 rfl, by rw [List.length_map]; exact hl, fun i d hd => ?_, ?_⟩
    · obtain ⟨c, hc, rfl⟩ := signs_get hd
      refine gv_name (by simp) ?_
      walk_at "xs"
      refine ⟨fun _ => ?_, fun z => nomatch z⟩
      walk_at "xs"
      refine ⟨fun h1 => ?_, fun h1 => ?_⟩
      · walk_at "xs"
        refine ⟨fun h2 => ?_, fun h2 => ?_⟩
        · walk_at "xs"
          refine ⟨fun h3 => ?_, fun h3 => ?_⟩
          · refine ⟨_, rfl, ?_, rfl⟩
            simp at h1 h2 h3
            simp [okSign]
            omega
          · walk_at "xs"
            refine w_str [10] (by decide +kernel) ?_
            walk_at "xs"
            refine ⟨?_, rfl⟩
            simp at h1 h2 h3
            simp [okSign]
            omega
        · refine ⟨_, rfl, (fun z => nomatch z), fun _ => ?_⟩
          walk_at "xs"
          refine w_str [10] (by decide +kernel) ?_
          walk_at "xs"
          refine ⟨?_, rfl⟩
          simp at h1 h2
          simp [okSign]
          omega
      · refine ⟨_, rfl, (fun z => nomatch z), fun _ => ⟨_, rfl, (fun z => nomatch z), fun _ => ?_⟩⟩
        walk_at "xs"
        refine w_str [10] (by decide +kernel) ?_
        walk_at "xs"
        refine ⟨?_, rfl⟩
        simp at h1
        simp [okSign]
        omega
    · walk_at "xs"
      rw [signs_map l (fun c => .bl (okSign c)) _ (fun c => rfl)]
      have e1 : l.map (fun c => Da.bl (okSign c)) = (l.map okSign).map Da.bl := by rw [List.map_map]; rfl
      rw [e1]
      refine cd_all ?_
      have : isText l = (l.map okSign).all id := by
        unfold isText
        rw [decide_eq_true (by have := of_decide_eq_false hb; omega), Bool.true_and, List.all_map]
        rfl
      rw [this] at hk
      exact hk
def f_look_text : FP := fun ds R X => ∃ l : List Nat, ds = [.str l] ∧ l.length ≤ 16000000 ∧ (isText l = true → R .non) ∧ (isText l = false → X "BadText")
abbrev sp_look_text (K : PySem.W.Frag) : Sp := SpOf K (PF f_look_text)
def t_look_text (K : PySem.W.Frag) (E : XK) : TS := (tIfS (tNot (tB (tCall (sp_is_text K) [] L2.E0 (tCons (tVar 0) tNil)))) (tRz E (He.ga K "BadText")) tNext)
theorem len_f_look_text : ∀ ds R X, f_look_text ds R X → ds.length = 1 := by
  rintro ds R X ⟨l, rfl, _⟩
  rfl
theorem len_look_text {K : PySem.W.Frag} : ∀ vs H Q E, sp_look_text K vs H Q E → vs.length = 1 := fun _ _ _ _ h => spOf_len (pf_len len_f_look_text) h
theorem pure_look_text {K : PySem.W.Frag} {vs : List V} {H : Hp} {Q : VK} {E : XK} (h : sp_look_text K vs H Q E) : t_look_text K E { nx := fun _ H' => Q .non H', rt := Q } (L2.start ["text"] vs) H := by
  refine bodyP (ts := t_look_text K) 1 0 rfl len_f_look_text (fun ds R X ⟨l, e, hl, h1, h2⟩ => ?_) h
  subst e
  show T K _ (t_look_text K E) [some (.d (.str l))] _ _ _
  unfold t_look_text
  walk_at "xs"
  refine w_fn ?_
  walk_at "xs"
  refine ⟨l, rfl, hl, ?_⟩
  walk_at "xs"
  refine ⟨fun hb => ?_, fun hb => ?_⟩
  · exact t_raise (h2 (by simpa using hb))
  · exact t_next (h1 (by simpa using hb))
def f_look_offset : FP := fun ds R X => ∃ (l : List Nat) (o : Int), ds = [.str l, .int o] ∧ l.length ≤ 16000000 ∧ (0 ≤ o ∧ o ≤ l.length → R .non) ∧ (¬ (0 ≤ o ∧ o ≤ l.length) → X "BadPlace")
abbrev sp_look_offset (K : PySem.W.Frag) : Sp := SpOf K (PF f_look_offset)
def t_look_offset (K : PySem.W.Frag) (E : XK) : TS := (tIfS (tNot (tTest (tChain rLe' rLe' (tC (.int 0)) (tVar 1) (tCB (rLen K) (tCons (tVar 0) tNil))))) (tRz E (He.ga K "BadPlace")) tNext)
theorem len_f_look_offset : ∀ ds R X, f_look_offset ds R X → ds.length = 2 := by
  rintro ds R X ⟨l, o, rfl, _⟩
  rfl
theorem len_look_offset {K : PySem.W.Frag} : ∀ vs H Q E, sp_look_offset K vs H Q E → vs.length = 2 := fun _ _ _ _ h => spOf_len (pf_len len_f_look_offset) h
theorem pure_look_offset {K : PySem.W.Frag} {vs : List V} {H : Hp} {Q : VK} {E : XK} (h : sp_look_offset K vs H Q E) : t_look_offset K E { nx := fun _ H' => Q .non H', rt := Q } (L2.start ["text", "offset"] vs) H := by
  refine bodyP (ts := t_look_offset K) 2 0 rfl len_f_look_offset (fun ds R X ⟨l, o, e, hl, h1, h2⟩ => ?_) h
  subst e
  show T K _ (t_look_offset K E) [some (.d (.str l)), some (.d (.int o))] _ _ _
  unfold t_look_offset
  walk_at "xs"
  refine ⟨fun hb => ?_, fun hb => ?_⟩
  · walk_at "xs"
    refine cd_lenS hl ?_
    walk_at "xs"
    refine ⟨fun hc => t_raise (h2 ?_), fun hc => t_next (h1 ?_)⟩
    · simp at hb hc
      omega
    · simp at hb hc
      omega
  · refine ⟨_, rfl, fun hc => t_raise (h2 ?_), fun hc => nomatch hc⟩
    simp at hb
    omega
def f_look_width : FP := fun ds R X => ∃ w : Int, ds = [.int w] ∧ (2 ≤ w ∧ w ≤ 200 → R .non) ∧ (¬ (2 ≤ w ∧ w ≤ 200) → X "BadSize")
abbrev sp_look_width (K : PySem.W.Frag) : Sp := SpOf K (PF f_look_width)
theorem len_f_look_width : ∀ ds R X, f_look_width ds R X → ds.length = 1 := by
  rintro ds R X ⟨l, rfl, _⟩
  rfl
theorem len_look_width {K : PySem.W.Frag} : ∀ vs H Q E, sp_look_width K vs H Q E → vs.length = 1 := fun _ _ _ _ h => spOf_len (pf_len len_f_look_width) h
end Cr

/-! The plain law of wrapping: no program in sight. -/
namespace Cr
def gr (c : Nat) : Bool := decide (65 ≤ c ∧ c ≤ 90)
def w1 (c : Nat) : Nat := if gr c then 2 else 1
def wd (l : List Nat) : Nat := (l.map w1).sum
theorem w1_pos (c : Nat) : 1 ≤ w1 c ∧ w1 c ≤ 2 := by unfold w1; split <;> omega
theorem wid_nil : wd [] = 0 := rfl
theorem wid_cons (c : Nat) (l : List Nat) : wd (c :: l) = w1 c + wd l := by simp [wd]
theorem wid_app (a b : List Nat) : wd (a ++ b) = wd a + wd b := by simp [wd]
theorem wd_len (l : List Nat) : wd l = l.length + (l.filter gr).length := by
  induction l with
  | nil => rfl
  | cons c r ih =>
    rw [wid_cons, ih, List.length_cons, List.filter_cons]
    unfold w1
    cases gr c <;> simp <;> omega
theorem wd_take_le (l : List Nat) (k : Nat) : wd (l.take k) ≤ wd l := by
  have := wid_app (l.take k) (l.drop k)
  rw [List.take_append_drop] at this
  omega
theorem wd_mono (l : List Nat) {j k : Nat} (h : j ≤ k) : wd (l.take j) ≤ wd (l.take k) := by
  have : l.take j = (l.take k).take j := by rw [List.take_take, Nat.min_eq_left h]
  rw [this]
  exact wd_take_le _ _
def fitN : Nat → List Nat → Nat
  | _, [] => 0
  | r, c :: l => if w1 c ≤ r then fitN (r - w1 c) l + 1 else 0
theorem fit_len : ∀ (r : Nat) (l : List Nat), fitN r l ≤ l.length
  | _, [] => Nat.le_refl _
  | r, c :: l => by
    unfold fitN
    have := fit_len (r - w1 c) l
    split <;> simp <;> omega
theorem fit_wd : ∀ (r : Nat) (l : List Nat), wd (l.take (fitN r l)) ≤ r
  | _, [] => by simp [fitN, wd]
  | r, c :: l => by
    unfold fitN
    have := fit_wd (r - w1 c) l
    split
    · rw [List.take_succ_cons, wid_cons]
      omega
    · simp [wd]
theorem fit_max : ∀ (r : Nat) (l : List Nat) (k : Nat), k ≤ l.length → wd (l.take k) ≤ r → k ≤ fitN r l
  | _, [], k, h, _ => by simp at h; omega
  | r, c :: l, 0, _, _ => Nat.zero_le _
  | r, c :: l, k + 1, h, hw => by
    rw [List.take_succ_cons, wid_cons] at hw
    unfold fitN
    rw [if_pos (by omega)]
    have := fit_max (r - w1 c) l k (by simpa using h) (by omega)
    omega
theorem fit_pos {r : Nat} {l : List Nat} (hr : 2 ≤ r) (hl : l ≠ []) : 1 ≤ fitN r l := by
  cases l with
  | nil => exact absurd rfl hl
  | cons c l =>
    unfold fitN
    have := w1_pos c
    rw [if_pos (by omega)]
    omega
def blN : List Nat → Nat
  | [] => 0
  | c :: l => if c = 32 then blN l + 1 else 0
theorem bl_len : ∀ l : List Nat, blN l ≤ l.length
  | [] => Nat.le_refl _
  | c :: l => by
    unfold blN
    have := bl_len l
    split <;> simp <;> omega
theorem bl_all : ∀ (l : List Nat), ∀ c ∈ l.take (blN l), c = 32
  | [], c, h => by simp at h
  | d :: l, c, h => by
    unfold blN at h
    split at h
    · rw [List.take_succ_cons] at h
      rcases List.mem_cons.mp h with rfl | h
      · assumption
      · exact bl_all l c h
    · simp at h
theorem bl_end : ∀ (l : List Nat) (c : Nat), l[blN l]? = some c → c ≠ 32
  | [], c, h => by simp at h
  | d :: l, c, h => by
    unfold blN at h
    split at h
    · exact bl_end l c (by simpa using h)
    · simp at h
      subst h
      assumption
/-- behind the last blank within the first n -/
def cbN (p : List Nat) : Nat → Nat
  | 0 => 0
  | n + 1 => if p[n]? = some 32 then n + 1 else cbN p n
theorem cb_le (p : List Nat) : ∀ n, cbN p n ≤ n
  | 0 => Nat.le_refl _
  | n + 1 => by
    unfold cbN
    have := cb_le p n
    split <;> omega
theorem cb_at (p : List Nat) : ∀ n, cbN p n = 0 ∨ p[cbN p n - 1]? = some 32
  | 0 => .inl rfl
  | n + 1 => by
    unfold cbN
    split
    · right
      simpa using ‹_›
    · exact cb_at p n
theorem cb_last (p : List Nat) : ∀ (n i : Nat), i < n → p[i]? = some 32 → i < cbN p n
  | 0, i, h, _ => by omega
  | n + 1, i, h, hp => by
    unfold cbN
    split
    · exact h
    · rename_i hn
      have : i ≠ n := fun z => hn (z ▸ hp)
      exact cb_last p n i (by omega) hp
def endN (w : Nat) (p : List Nat) : Nat := fitN w p + blN (p.drop (fitN w p))
/-- how many signs the first row takes -/
def rowN (w : Nat) (p : List Nat) : Nat := if endN w p = p.length then p.length else if 0 < cbN p (endN w p) then cbN p (endN w p) else endN w p
theorem end_len (w : Nat) (p : List Nat) : endN w p ≤ p.length := by
  unfold endN
  have h1 := fit_len w p
  have h2 := bl_len (p.drop (fitN w p))
  rw [List.length_drop] at h2
  omega
theorem row_end_le (w : Nat) (p : List Nat) : rowN w p ≤ endN w p := by
  unfold rowN
  have := cb_le p (endN w p)
  split
  · omega
  · split <;> omega
theorem row_len (w : Nat) (p : List Nat) : rowN w p ≤ p.length := Nat.le_trans (row_end_le w p) (end_len w p)
theorem row_pos {w : Nat} {p : List Nat} (hw : 2 ≤ w) (hp : p ≠ []) : 1 ≤ rowN w p := by
  have h1 := fit_pos (l := p) hw hp
  have h2 : 0 < p.length := List.length_pos_iff.mpr hp
  have h3 : 1 ≤ endN w p := by unfold endN; omega
  unfold rowN
  split
  · omega
  · split <;> omega
/-- the pieces that a paragraph is cut into -/
def piecesF (w : Nat) : Nat → List Nat → List (List Nat)
  | 0, p => [p]
  | f + 1, p => if rowN w p < p.length then p.take (rowN w p) :: piecesF w f (p.drop (rowN w p)) else [p]
def pieces (w : Nat) (p : List Nat) : List (List Nat) := piecesF w p.length p
theorem pieces_fuel {w : Nat} (hw : 2 ≤ w) : ∀ (f g : Nat) (p : List Nat), p.length ≤ f → p.length ≤ g → piecesF w f p = piecesF w g p
  | 0, 0, p, _, _ => rfl
  | 0, g + 1, p, h, _ => by
    have : p = [] := List.length_eq_zero_iff.mp (by omega)
    subst this
    rfl
  | f + 1, 0, p, _, h => by
    have : p = [] := List.length_eq_zero_iff.mp (by omega)
    subst this
    rfl
  | f + 1, g + 1, p, h1, h2 => by
    unfold piecesF
    by_cases h : rowN w p < p.length
    · rw [if_pos h, if_pos h]
      have hp : p ≠ [] := fun z => by rw [z] at h; exact absurd h (Nat.not_lt_zero _)
      have := row_pos hw hp
      rw [pieces_fuel hw f g (p.drop (rowN w p)) (by rw [List.length_drop]; omega) (by rw [List.length_drop]; omega)]
    · rw [if_neg h, if_neg h]
theorem pieces_eq {w : Nat} (hw : 2 ≤ w) (p : List Nat) : pieces w p = if rowN w p < p.length then p.take (rowN w p) :: pieces w (p.drop (rowN w p)) else [p] := by
  unfold pieces
  cases e : p.length with
  | zero =>
    have : p = [] := List.length_eq_zero_iff.mp e
    subst this
    rfl
  | succ n =>
    have e' : piecesF w (n + 1) p = if rowN w p < p.length then p.take (rowN w p) :: piecesF w n (p.drop (rowN w p)) else [p] := rfl
    rw [e', e]
    by_cases h : rowN w p < n + 1
    · rw [if_pos h, if_pos h]
      have hp : p ≠ [] := fun z => by rw [z] at e; exact nomatch e
      have := row_pos hw hp
      rw [pieces_fuel hw n (p.drop (rowN w p)).length (p.drop (rowN w p)) (by rw [List.length_drop]; omega) (Nat.le_refl _)]
    · rw [if_neg h, if_neg h]
theorem pieces_ne (w : Nat) (p : List Nat) : pieces w p ≠ [] := by
  unfold pieces
  cases p.length with
  | zero => exact List.cons_ne_nil _ _
  | succ n =>
    unfold piecesF
    split <;> exact List.cons_ne_nil _ _
/-- an induction along the pieces -/
theorem pieces_ind {w : Nat} (hw : 2 ≤ w) {M : List Nat → Prop} (h1 : ∀ p, rowN w p = p.length → M p) (h2 : ∀ p, rowN w p < p.length → 1 ≤ rowN w p → M (p.drop (rowN w p)) → M p) : ∀ p, M p := by
  have : ∀ n p, p.length ≤ n → M p := fun n => by
    induction n with
    | zero =>
      intro p hp
      have : p = [] := List.length_eq_zero_iff.mp (by omega)
      subst this
      refine h1 [] ?_
      have := row_len w []
      exact Nat.le_zero.mp this
    | succ n ih =>
      intro p hp
      by_cases h : rowN w p < p.length
      · have hn : p ≠ [] := fun z => by rw [z] at h; exact absurd h (Nat.not_lt_zero _)
        have := row_pos hw hn
        exact h2 p h this (ih _ (by rw [List.length_drop]; omega))
      · exact h1 p (Nat.le_antisymm (row_len w p) (by omega))
  exact fun p => this p.length p (Nat.le_refl _)
theorem pieces_last {w : Nat} (hw : 2 ≤ w) {p : List Nat} (h : rowN w p = p.length) : pieces w p = [p] := by
  rw [pieces_eq hw, if_neg (by omega)]
theorem pieces_more {w : Nat} (hw : 2 ≤ w) {p : List Nat} (h : rowN w p < p.length) : pieces w p = p.take (rowN w p) :: pieces w (p.drop (rowN w p)) := by
  rw [pieces_eq hw, if_pos h]
theorem pieces_flat {w : Nat} (hw : 2 ≤ w) (p : List Nat) : (pieces w p).flatten = p := by
  refine pieces_ind hw (M := fun p => (pieces w p).flatten = p) (fun p h => ?_) (fun p h _ ih => ?_) p
  · rw [pieces_last hw h]
    simp
  · rw [pieces_more hw h, List.flatten_cons, ih, List.take_append_drop]
theorem pieces_len {w : Nat} (hw : 2 ≤ w) (p : List Nat) : (pieces w p).length ≤ p.length + 1 := by
  refine pieces_ind hw (M := fun p => (pieces w p).length ≤ p.length + 1) (fun p h => ?_) (fun p h _ ih => ?_) p
  · rw [pieces_last hw h]
    simp
  · rw [pieces_more hw h, List.length_cons]
    rw [List.length_drop] at ih
    omega
/-- rows: from, to, soft -/
abbrev R3 := Nat × Nat × Bool
def pr (s : Nat) : List (List Nat) → List R3
  | [] => []
  | x :: r => (s, s + x.length, !r.isEmpty) :: pr (s + x.length) r
theorem pr_len (s : Nat) : ∀ ls : List (List Nat), (pr s ls).length = ls.length
  | [] => rfl
  | x :: r => by show (pr _ r).length + 1 = _; rw [pr_len _ r]; rfl
def prows (w s : Nat) (p : List Nat) : List R3 := pr s (pieces w p)
theorem prows_last {w : Nat} (hw : 2 ≤ w) {p : List Nat} (h : rowN w p = p.length) (s : Nat) : prows w s p = [(s, s + p.length, false)] := by
  unfold prows
  rw [pieces_last hw h]
  rfl
theorem prows_more {w : Nat} (hw : 2 ≤ w) {p : List Nat} (h : rowN w p < p.length) (s : Nat) : prows w s p = (s, s + rowN w p, true) :: prows w (s + rowN w p) (p.drop (rowN w p)) := by
  unfold prows
  rw [pieces_more hw h]
  have e : (p.take (rowN w p)).length = rowN w p := by rw [List.length_take]; omega
  show (s, s + (p.take (rowN w p)).length, !(pieces w (p.drop (rowN w p))).isEmpty) :: pr (s + (p.take (rowN w p)).length) _ = _
  rw [e]
  cases h : pieces w (p.drop (rowN w p)) with
  | nil => exact absurd h (pieces_ne _ _)
  | cons => rfl
theorem prows_len {w : Nat} (hw : 2 ≤ w) (s : Nat) (p : List Nat) : (prows w s p).length ≤ p.length + 1 := by
  unfold prows
  rw [pr_len]
  exact pieces_len hw p
def rowsP (w s : Nat) : List (List Nat) → List R3
  | [] => []
  | p :: r => prows w s p ++ rowsP w (s + p.length + 1) r
def rowsW (w : Nat) (t : List Nat) : List R3 := rowsP w 0 (splitAt1 10 t)
theorem rowsP_app (w : Nat) : ∀ (s : Nat) (a b : List (List Nat)), rowsP w s (a ++ b) = rowsP w s a ++ rowsP w (s + (a.map List.length).sum + a.length) b
  | s, [], b => by simp [rowsP]
  | s, p :: r, b => by
    rw [List.cons_append]
    show prows w s p ++ rowsP w (s + p.length + 1) (r ++ b) = (prows w s p ++ rowsP w (s + p.length + 1) r) ++ _
    rw [rowsP_app w _ r b, List.append_assoc]
    congr 3
    simp
    omega
theorem rowsP_len {w : Nat} (hw : 2 ≤ w) : ∀ (s : Nat) (ps : List (List Nat)), (rowsP w s ps).length ≤ (ps.map List.length).sum + ps.length
  | s, [] => by simp [rowsP]
  | s, p :: r => by
    show (prows w s p ++ rowsP w (s + p.length + 1) r).length ≤ _
    rw [List.length_append]
    have h1 := prows_len hw s p
    have h2 := rowsP_len hw (s + p.length + 1) r
    simp
    omega
theorem split_len (c : Nat) : ∀ l : List Nat, ((splitAt1 c l).map List.length).sum + (splitAt1 c l).length = l.length + 1
  | [] => rfl
  | d :: l => by
    have ih := split_len c l
    unfold splitAt1
    cases e : splitAt1 c l with
    | nil => exact absurd e (splitAt1_ne c l)
    | cons p ps =>
      rw [e] at ih
      by_cases h : d = c
      · simp [h] at ih ⊢
        omega
      · simp [h] at ih ⊢
        omega
theorem rowsW_len {w : Nat} (hw : 2 ≤ w) (t : List Nat) : (rowsW w t).length ≤ t.length + 1 := by
  have h1 := rowsP_len hw 0 (splitAt1 10 t)
  have h2 := split_len 10 t
  unfold rowsW
  omega
def seg (t : List Nat) (s l : Nat) : List Nat := (t.drop s).take (l - s)
theorem seg_len {t : List Nat} {s l : Nat} (h1 : s ≤ l) (h2 : l ≤ t.length) : (seg t s l).length = l - s := by
  unfold seg
  rw [List.length_take, List.length_drop]
  omega
theorem seg_get {t : List Nat} {s l i : Nat} (h : s + i < l) : (seg t s l)[i]? = t[s + i]? := by
  unfold seg
  rw [List.getElem?_take, if_pos (by omega), List.getElem?_drop]
theorem seg_drop (t : List Nat) (s l n : Nat) : (seg t s l).drop n = seg t (s + n) l := by
  unfold seg
  rw [List.drop_take, List.drop_drop]
  congr 1
  omega
/-- where each part stands -/
def pars (s : Nat) : List (List Nat) → List (Nat × Nat)
  | [] => []
  | p :: r => (s, s + p.length) :: pars (s + p.length + 1) r
theorem pars_len : ∀ (s : Nat) (ps : List (List Nat)), (pars s ps).length = ps.length
  | _, [] => rfl
  | s, p :: r => by show (pars _ r).length + 1 = _; rw [pars_len _ r]; rfl
theorem pars_app : ∀ (s : Nat) (a b : List (List Nat)), pars s (a ++ b) = pars s a ++ pars (s + (a.map List.length).sum + a.length) b
  | s, [], b => by simp [pars]
  | s, p :: r, b => by
    rw [List.cons_append]
    show (s, s + p.length) :: pars (s + p.length + 1) (r ++ b) = ((s, s + p.length) :: pars (s + p.length + 1) r) ++ _
    rw [pars_app _ r b, List.cons_append]
    congr 3
    simp
    omega
/-- the text is its parts, with a line end between -/
def glue : List (List Nat) → List Nat
  | [] => []
  | [p] => p
  | p :: q :: r => p ++ 10 :: glue (q :: r)
theorem glue_split : ∀ t : List Nat, glue (splitAt1 10 t) = t
  | [] => rfl
  | d :: l => by
    have ih := glue_split l
    unfold splitAt1
    cases e : splitAt1 10 l with
    | nil => exact absurd e (splitAt1_ne 10 l)
    | cons p ps =>
      rw [e] at ih
      by_cases h : d = 10
      · rw [if_pos h, h]
        show [] ++ 10 :: glue (p :: ps) = _
        rw [ih]
        rfl
      · rw [if_neg h]
        cases ps with
        | nil =>
          show d :: p = d :: l
          rw [← ih]
          rfl
        | cons q r =>
          show (d :: p) ++ 10 :: glue (q :: r) = d :: l
          rw [← ih]
          rfl
end Cr

namespace Cr
open PySem PySem.StrLaws
open Builtin Builtin.Str
/-! ### a text in a text -/
def atP (t p : List Nat) (i : Nat) : Prop := i + p.length ≤ t.length ∧ (t.drop i).take p.length = p
instance (t p : List Nat) (i : Nat) : Decidable (atP t p i) := by unfold atP; exact inferInstance
theorem at_S {t p : List Nat} {hi i : Nat} : At (S t) (S p) hi i ↔ i + p.length ≤ hi ∧ (t.drop i).take p.length = p := by
  unfold At
  rw [subAt_eq, S_len]
  show (_ ∧ ((t.drop i).take p.length == p) = true) ↔ _
  rw [beq_iff_eq]
theorem occ_stay (x y : Str) (hi : Nat) : ∀ (l : List Nat) (st : Array Nat × Nat), st.1.size = 1 → (forIn l st (occBody x y hi 1)).run.1 = st.1
  | [], st, h => rfl
  | a :: l, st, h => by
    rw [List.forIn_cons]
    unfold occBody
    rw [if_neg (by rw [h]; omega)]
    exact occ_stay x y hi l (st.1, st.2) h
theorem occ_run (x y : Str) (hi : Nat) : ∀ (l : List Nat) (free : Nat), (∀ i ∈ l, free ≤ i) → l.Pairwise (· < ·) →
    ((forIn l ((#[] : Array Nat), free) (occBody x y hi 1)).run.1 = #[] ∧ ∀ i ∈ l, ¬ At x y hi i) ∨ ∃ i, (forIn l ((#[] : Array Nat), free) (occBody x y hi 1)).run.1 = #[i] ∧ i ∈ l ∧ At x y hi i ∧ ∀ k ∈ l, k < i → ¬ At x y hi k
  | [], free, _, _ => .inl ⟨rfl, fun _ h => nomatch h⟩
  | a :: l, free, hf, hp => by
    rw [List.forIn_cons]
    have ha : free ≤ a := hf a List.mem_cons_self
    have hp' := List.pairwise_cons.mp hp
    by_cases hc : At x y hi a
    · have c1 : ((((#[] : Array Nat), free).1.size < 1 ∧ ((#[] : Array Nat), free).2 ≤ a) ∧ a + y.length ≤ hi) ∧ subAt x y a = true := ⟨⟨⟨by simp, ha⟩, hc.1⟩, hc.2⟩
      refine .inr ⟨a, ?_, List.mem_cons_self, hc, fun k hk hlt => ?_⟩
      · unfold occBody
        rw [if_pos c1]
        exact occ_stay x y hi l _ (by simp)
      · rcases List.mem_cons.mp hk with rfl | hk
        · omega
        · have := hp'.1 k hk
          omega
    · have c2 : ¬ (((((#[] : Array Nat), free).1.size < 1 ∧ ((#[] : Array Nat), free).2 ≤ a) ∧ a + y.length ≤ hi) ∧ subAt x y a = true) := fun h => hc ⟨h.1.2, h.2⟩
      have e : (occBody x y hi 1 a (#[], free)) = pure (ForInStep.yield ((#[] : Array Nat), free)) := by
        unfold occBody
        rw [if_neg c2]
      rw [e]
      rcases occ_run x y hi l free (fun i h => hf i (List.mem_cons_of_mem _ h)) hp'.2 with ⟨h1, h2⟩ | ⟨i, h1, h2, h3, h4⟩
      · refine .inl ⟨h1, fun i h => ?_⟩
        rcases List.mem_cons.mp h with rfl | h
        · exact hc
        · exact h2 i h
      · refine .inr ⟨i, h1, List.mem_cons_of_mem _ h2, h3, fun k hk hlt => ?_⟩
        rcases List.mem_cons.mp hk with rfl | hk
        · exact hc
        · exact h4 k hk hlt
theorem occ_first (x y : Str) (lo hi : Nat) : (occurrences x y lo hi 1 = [] ∧ ∀ i, lo ≤ i → ¬ At x y hi i) ∨ ∃ i, occurrences x y lo hi 1 = [i] ∧ lo ≤ i ∧ At x y hi i ∧ ∀ k, lo ≤ k → k < i → ¬ At x y hi k := by
  rw [occ_eq]
  have mem : ∀ i, i ∈ List.range' lo (hi + 1 - lo) ↔ lo ≤ i ∧ i < lo + (hi + 1 - lo) := fun i => by
    rw [List.mem_range']
    constructor
    · rintro ⟨j, h1, rfl⟩
      omega
    · rintro ⟨h1, h2⟩
      exact ⟨i - lo, by omega, by omega⟩
  rcases occ_run x y hi (List.range' lo (hi + 1 - lo)) lo (fun i h => ((mem i).mp h).1) (by simpa using List.pairwise_lt_range' (s := lo) (n := hi + 1 - lo)) with ⟨h1, h2⟩ | ⟨i, h1, h2, h3, h4⟩
  · refine .inl ⟨by rw [h1], fun i hi' hc => h2 i ((mem i).mpr ⟨hi', ?_⟩) hc⟩
    have := hc.1
    omega
  · refine .inr ⟨i, by rw [h1], ((mem i).mp h2).1, h3, fun k hk hlt => h4 k ((mem k).mpr ⟨hk, ?_⟩) hlt⟩
    have := ((mem i).mp h2).2
    omega
theorem last_gen (x y : Str) (lo hi : Nat) : (lastOccurrence x y lo hi = none ∧ ∀ i, lo ≤ i → ¬ At x y hi i) ∨ ∃ i, lastOccurrence x y lo hi = some i ∧ At x y hi i ∧ ∀ k, lo ≤ k → i < k → ¬ At x y hi k := by
  rw [last_eq]
  have key := last_run x y hi (List.range' lo (hi + 1 - lo)) [] none (fun _ h => nomatch h) (fun _ h => nomatch h) (by simpa using List.pairwise_lt_range' (s := lo) (n := hi + 1 - lo))
  rw [List.nil_append] at key
  have mem : ∀ i, At x y hi i → lo ≤ i → i ∈ List.range' lo (hi + 1 - lo) := fun i h1 h2 => by
    rw [List.mem_range']
    have := h1.1
    exact ⟨i - lo, by omega, by omega⟩
  cases e : (forIn (List.range' lo (hi + 1 - lo)) none (lastBody x y hi)).run with
  | none =>
    rw [e] at key
    exact .inl ⟨rfl, fun i h1 h2 => key i (mem i h2 h1) h2⟩
  | some a =>
    rw [e] at key
    exact .inr ⟨a, rfl, key.1, fun k h1 h2 h3 => key.2 k (mem k h3 h1) h2 h3⟩
/-- find from a place on -/
theorem find2_spec (t p : List Nat) (o : Nat) : (Txt.find3 (S t) (S p) (o : Int) = -1 ∧ ∀ i, o ≤ i → ¬ atP t p i) ∨ ∃ i : Nat, Txt.find3 (S t) (S p) (o : Int) = (i : Int) ∧ o ≤ i ∧ atP t p i ∧ ∀ k, o ≤ k → k < i → ¬ atP t p k := by
  have e : fromIndex (S t).length (o : Int) = o := by unfold fromIndex; omega
  unfold Txt.find3
  rw [e]
  rcases occ_first (S t) (S p) o (S t).length with ⟨h1, h2⟩ | ⟨i, h1, h2, h3, h4⟩
  · rw [h1]
    refine .inl ⟨rfl, fun i h k => h2 i h (at_S.mpr ?_)⟩
    rw [S_len]
    exact k
  · rw [h1]
    refine .inr ⟨i, rfl, h2, ?_, fun k h5 h6 h7 => h4 k h5 h6 (at_S.mpr ?_)⟩
    · have := at_S.mp h3
      rw [S_len] at this
      exact this
    · rw [S_len]
      exact h7
theorem find1_spec (t p : List Nat) : (Txt.find (S t) (S p) = -1 ∧ ∀ i, ¬ atP t p i) ∨ ∃ i : Nat, Txt.find (S t) (S p) = (i : Int) ∧ atP t p i ∧ ∀ k, k < i → ¬ atP t p k := by
  unfold Txt.find
  rcases occ_first (S t) (S p) 0 (S t).length with ⟨h1, h2⟩ | ⟨i, h1, h2, h3, h4⟩
  · rw [h1]
    refine .inl ⟨rfl, fun i k => h2 i (Nat.zero_le _) (at_S.mpr ?_)⟩
    rw [S_len]
    exact k
  · rw [h1]
    refine .inr ⟨i, rfl, ?_, fun k h6 h7 => h4 k (Nat.zero_le _) h6 (at_S.mpr ?_)⟩
    · have := at_S.mp h3
      rw [S_len] at this
      exact this
    · rw [S_len]
      exact h7
theorem rfind1_spec (t p : List Nat) : (Txt.rfind (S t) (S p) = -1 ∧ ∀ i, ¬ atP t p i) ∨ ∃ i : Nat, Txt.rfind (S t) (S p) = (i : Int) ∧ atP t p i ∧ ∀ k, i < k → ¬ atP t p k := by
  unfold Txt.rfind
  rcases last_gen (S t) (S p) 0 (S t).length with ⟨h1, h2⟩ | ⟨i, h1, h3, h4⟩
  · rw [h1]
    refine .inl ⟨rfl, fun i k => h2 i (Nat.zero_le _) (at_S.mpr ?_)⟩
    rw [S_len]
    exact k
  · rw [h1]
    refine .inr ⟨i, rfl, ?_, fun k h6 h7 => h4 k (Nat.zero_le _) h6 (at_S.mpr ?_)⟩
    · have := at_S.mp h3
      rw [S_len] at this
      exact this
    · rw [S_len]
      exact h7
theorem rfind3_spec (t p : List Nat) (o : Nat) (ho : o ≤ t.length) : (Txt.rfindIn (S t) (S p) 0 (o : Int) = -1 ∧ ∀ i, atP t p i → ¬ i + p.length ≤ o) ∨ ∃ i : Nat, Txt.rfindIn (S t) (S p) 0 (o : Int) = (i : Int) ∧ atP t p i ∧ i + p.length ≤ o ∧ ∀ k, i < k → atP t p k → ¬ k + p.length ≤ o := by
  have e : toIndexW (S t).length (o : Int) = o := by
    unfold toIndexW
    rw [S_len]
    omega
  have e0 : fromIndex (S t).length (0 : Int) = 0 := by unfold fromIndex; omega
  unfold Txt.rfindIn
  rw [e, e0]
  rcases last_gen (S t) (S p) 0 o with ⟨h1, h2⟩ | ⟨i, h1, h3, h4⟩
  · rw [h1]
    exact .inl ⟨rfl, fun i k h => h2 i (Nat.zero_le _) (at_S.mpr ⟨h, k.2⟩)⟩
  · rw [h1]
    have h5 := at_S.mp h3
    exact .inr ⟨i, rfl, ⟨by omega, h5.2⟩, h5.1, fun k h6 h7 h8 => h4 k (Nat.zero_le _) h6 (at_S.mpr ⟨h8, h7.2⟩)⟩
end Cr

namespace Cr
open PySem PySem.Spec PyProof.Rows L2
/-! ### methods and makers by name -/
structure Mt (P : Program) (w : World) (K : PySem.W.Frag) (mg : Str → Option Value) (base : Heap) (CX : CXT) (k : Nat) (C m : Str) (ps : List Str) (sp : Sp) : Prop where
  cl : Cls K (He.ga K C)
  me : Meth K (He.ga K C) m (He.ma K (He.ga K C) m)
  ex : ∃ fd, FnOk P w K mg base CX k (He.ma K (He.ga K C) m) fd ps sp ∧ Binds K fd ps []
structure Mkr (P : Program) (w : World) (K : PySem.W.Frag) (mg : Str → Option Value) (base : Heap) (CX : CXT) (k : Nat) (C : Str) (ps : List Str) (sp : Sp) : Prop where
  mkd : Mk K (He.ga K C) (He.ma K (He.ga K C) "__init__")
  mg_ : mg C = some (.ref (He.ga K C))
  ex : ∃ fd, FnOk P w K mg base CX k (He.ma K (He.ga K C) "__init__") fd ps sp ∧ Binds K fd ps []
section
variable {P : Program} {w : World} {K : PySem.W.Frag} {mg : Str → Option Value} {base : Heap}
theorem fx_mk {CX : CXT} {x q : Str} {f : Addr} {N ps : List Str} {k : Nat} {sp : Sp} {pa : Arguments} {bd : List Stmt} {sc : Scope} (D : ∃ fd, FunD K x q pa bd sc [] [] f fd) (S : FnScope N ps sc)
    (hb : ∀ (kV doc pm : Value) (an : Option Addr) (cdv ct : Value) (us : List Value), us.length = ps.length → bindArgs (PySem.W.fnOf x q pa bd sc .none kV doc pm an cdv ct) ⟨us, []⟩ = pure (ps.zip us)) (len : ∀ vs H Q E, sp vs H Q E → vs.length = ps.length)
    (hbody : ∀ (fd : FuncData) (cdv : Value) (A : Around) (outer : List Env) (s : Shared) (H : Hp) (vs : List V) (Q : VK) (E : XK), Room k (A.deeper (envOfC q sc s.heap.objs.size f cdv)) → sp vs H Q E →
      ∃ t, PSs (cxOf CX P w K mg base N q sc f cdv A outer s H E) bd t ∧ t { nx := fun _ H' => Q .non H', rt := Q } (L2.start N vs) H) : ∃ fd, FnOk P w K mg base CX (k + 1) f fd ps sp ∧ Binds K fd ps [] := by
  obtain ⟨fd, F⟩ := D
  exact ⟨fd, F.ok S len fun cdv A outer s H vs Q E hr h => hbody fd cdv A outer s H vs Q E hr h, F.bindsN hb⟩
/-- a def that promises nothing -/
theorem fn_none {CX : CXT} {x : Str} {ps : List Str} {k : Nat} {sp : Sp} {pa : Arguments} {bd : List Stmt} {sc : Scope} (D : ∃ fd, FunD K x x pa bd sc [] [] (He.ga K x) fd) (hm : mg x = some (.ref (He.ga K x)))
    (hb : ∀ (kV doc pm : Value) (an : Option Addr) (cdv ct : Value) (us : List Value), us.length = ps.length → bindArgs (PySem.W.fnOf x x pa bd sc .none kV doc pm an cdv ct) ⟨us, []⟩ = pure (ps.zip us)) (no : ∀ vs H Q E, ¬ sp vs H Q E) : Fn P w K mg base CX k x ps sp := by
  obtain ⟨fd, F⟩ := D
  exact ⟨⟨fd, ⟨fun vs H Q E h => absurd h (no vs H Q E), fun _ _ _ H _ _ vs Q E _ _ _ _ h => absurd h (no vs H Q E)⟩, F.bindsN hb, (by obtain ⟨oc, od, dV, kV, doc, pm, an, cdv, ct, osl, _, lk, _⟩ := F.ex; exact ⟨oc, od, osl, lk⟩), fun s us hl => FunD.bindsA (ps := ps) F hb s us hl⟩, hm, F.kp⟩
end
section
variable {X : Cx} {CX : CXT} {k j : Nat} {C m x : Str} {ps : List Str} {sp : Sp} {E : XK} {e o : Expr} {es : List Expr} {t : TA} {ta : TE} {p pos apos : Pos}
theorem pm0 {pl : Sem Bool} (F : Mt X.prog X.w X.K X.mg X.base CX k C m ps sp) (hr : Room j X.A) (hj : k ≤ j) (hx : Passes CX X E) (he : PE X o ta)
    (ht : eval (.Call (.Attribute o m apos) [] [] pos) X.env = (do
      let ov ← eval o X.env
      standAt apos.atName
      let (f, first) ← holding [ov] (getMethod ov m pl)
      callWith pos f first (backTo pos (starEach [] X.env)) (backToKw pos (keywordEach [] X.env))) := by rfl) : PE X (.Call (.Attribute o m apos) [] [] pos) (tMeth (He.ga X.K C) m sp [] E ta tNil) := by
  obtain ⟨c, me, ⟨fd, h, b⟩⟩ := F
  exact pe_meth0 he c me h (hr.mono hj) b .nil hx ht
theorem pm1 {pl : Sem Bool} (F : Mt X.prog X.w X.K X.mg X.base CX k C m ps sp) (hr : Room j X.A) (hj : k ≤ j) (hx : Passes CX X E) (he : PE X o ta) (ha : PA X (e :: es) t)
    (hst : starEach (e :: es) X.env = (false, eval e X.env) :: starEach es X.env := by rfl) (hpl : (backTo pos (starEach es X.env)).any (·.1) = false := by rfl)
    (ht : eval (.Call (.Attribute o m apos) (e :: es) [] pos) X.env = (do
      let ov ← eval o X.env
      standAt apos.atName
      let (f, first) ← holding [ov] (getMethod ov m pl)
      callWith pos f first (backTo pos (starEach (e :: es) X.env)) (backToKw pos (keywordEach [] X.env))) := by rfl) : PE X (.Call (.Attribute o m apos) (e :: es) [] pos) (tMeth (He.ga X.K C) m sp [] E ta t) := by
  obtain ⟨c, me, ⟨fd, h, b⟩⟩ := F
  exact pe_meth he c me h (hr.mono hj) b .nil hx ha hst hpl ht
theorem pmk (F : Mkr X.prog X.w X.K X.mg X.base CX k C ps sp) (hr : Room j X.A) (hj : k + 1 ≤ j) (hg : Gl X C) (hx : Passes CX X E) (ha : PA X (e :: es) t) (hdb : (C == ("__debug__" : Str)) = false := by decide) (he : starEach (e :: es) X.env = (false, eval e X.env) :: starEach es X.env := by rfl)
    (hpl : (backTo pos (starEach es X.env)).any (·.1) = false := by rfl) : PE X (.Call (.Name C p) (e :: es) [] pos) (tMake (He.ga X.K C) sp [] E t) := by
  obtain ⟨mk, hm, ⟨fd, h, b⟩⟩ := F
  exact pe_make mk h (hr.mono hj) hg hm b .nil hx ha hdb he hpl
end
/-- a text of the program's, with its signs -/
def tK (l : List Nat) (z : Str) : TE := tC (.str z)
theorem w_k {K : PySem.W.Frag} {E : WX} {δ : Dl} {P : PX} {X : XX} {z : Str} {l : List Nat} (e : z = S l) (k : P (.d (.str l)) δ) : W K E (tK l z) δ P X := w_str l e k
/-! ### rows -/
/-- what the class of rows must say -/
structure RwF (K : PySem.W.Frag) : Prop where
  c : Cls K (He.ga K "Row")
  n1 : NoAttr K (He.ga K "Row") "start"
  n2 : NoAttr K (He.ga K "Row") "end"
  n3 : NoAttr K (He.ga K "Row") "is_soft"
def sp_Row_init (K : PySem.W.Frag) : Sp := fun vs H Q _ => ∃ (x dx : Addr) (s e : Int) (b : Bool), vs = [.ref x, .int s, .int e, .bl b] ∧ RwF K ∧ H x = some (.ins (He.ga K "Row") dx []) ∧ Q .non (upd H x (.ins (He.ga K "Row") dx (rowF s e b)))
def t_Row_init (K : PySem.W.Frag) (E : XK) : TS := tSeq (sFld K (tVar 0) (tVar 1) "start") (tSeq (sFld K (tVar 0) (tVar 2) "end") (sFld K (tVar 0) (tVar 3) "is_soft"))
theorem len_Row_init {K : PySem.W.Frag} : ∀ vs H Q E, sp_Row_init K vs H Q E → vs.length = 4 := by
  rintro vs H Q E ⟨x, dx, s, e, b, rfl, _⟩
  rfl
theorem pure_Row_init {K : PySem.W.Frag} {vs : List V} {H : Hp} {Q : VK} {E : XK} (h : sp_Row_init K vs H Q E) : t_Row_init K E { nx := fun _ H' => Q .non H', rt := Q } (L2.start ["self", "start", "end", "is_soft"] vs) H := by
  obtain ⟨x, dx, s, e, b, rfl, R, hx, q⟩ := h
  refine ⟨_, rfl, _, rfl, x, _, dx, [], rfl, hx, R.c, R.n1, by decide, ?_⟩
  refine ⟨_, rfl, _, rfl, x, _, dx, _, rfl, upd_same, R.c, R.n2, by show 1 < 1000; decide, ?_⟩
  rw [upd_upd]
  refine ⟨_, rfl, _, rfl, x, _, dx, _, rfl, upd_same, R.c, R.n3, by show 2 < 1000; decide, ?_⟩
  rw [upd_upd]
  exact q
section
variable {K : PySem.W.Frag} {E : WX} {δ : Dl} {P : PX} {X : XX} {te : TE}
theorem w_row {E' : XK} {ta : TA} (R : RwF K) (h : WD K E ta δ (fun ds δ1 => ∃ (s e : Int) (b : Bool), ds = [.int s, .int e, .bl b] ∧ P (.d (.row s e b)) δ1) X) : W K E (tMake (He.ga K "Row") (sp_Row_init K) [] E' ta) δ P X := fun w σ Hb H s Q q e => by
  refine h w σ Hb H s _ (fun ds δ1 vs w1 Hb1 H1 ⟨i, j, b, ed, k⟩ s1 r1 f1 => ?_) e
  subst ed
  intro x dx hx hdx hne
  have ev : vs = [.int i, .int j, .bl b] := by
    cases r1 with
    | cons a t => cases a; cases t with
      | cons a t => cases a; cases t with
        | cons a t => cases a; cases t; rfl
  subst ev
  refine ⟨x, dx, i, j, b, rfl, R, upd_same, rfl, ?_⟩
  rw [upd_upd]
  obtain ⟨s2, f2⟩ := s1.new (p := dx) (o := .own x) hdx
  have hx2 : upd H1 dx (.own x) x = none := by rw [upd_ne (fun z => hne z.symm)]; exact hx
  obtain ⟨s3, f3⟩ := s2.new (p := x) (o := .ins (He.ga K "Row") dx (rowF i j b)) hx2
  exact q _ _ _ w1 _ _ k s3 (.row (dx := dx) upd_same) ((f1.trans f2).trans f3)
theorem w_fldRow {f : Str} (R : RwF K) (h : W K E te δ (fun x δ1 => ∃ (s e : Int) (b : Bool) (d : Da), x = .d (.row s e b) ∧ ((f = "start" ∧ d = .int s) ∨ (f = "end" ∧ d = .int e) ∨ (f = "is_soft" ∧ d = .bl b)) ∧ P (.d d) δ1) X) : W K E (tFld K te f) δ P X := fun w σ Hb H s Q q e => by
  refine h w σ Hb H s _ (fun x δ1 v w1 Hb1 H1 ⟨i, j, b, d, ex, hf, k⟩ s1 r1 f1 => ?_) e
  subst ex
  have r1 : Rp K Hb1 v (.row i j b) := r1
  cases r1 with
  | @row a dx _ _ _ ha =>
    rcases hf with ⟨rfl, rfl⟩ | ⟨rfl, rfl⟩ | ⟨rfl, rfl⟩
    · exact ⟨a, _, dx, _, _, rfl, s1.sub _ _ ha, R.c, R.n1, rfl, q _ _ _ w1 Hb1 H1 k s1 (.int i) f1⟩
    · exact ⟨a, _, dx, _, _, rfl, s1.sub _ _ ha, R.c, R.n2, rfl, q _ _ _ w1 Hb1 H1 k s1 (.int j) f1⟩
    · exact ⟨a, _, dx, _, _, rfl, s1.sub _ _ ha, R.c, R.n3, rfl, q _ _ _ w1 Hb1 H1 k s1 (.bl b) f1⟩
theorem w_start (R : RwF K) (h : W K E te δ (fun x δ1 => ∃ (s e : Int) (b : Bool), x = .d (.row s e b) ∧ P (.d (.int s)) δ1) X) : W K E (tFld K te "start") δ P X := w_fldRow R (h.imp fun _ _ ⟨s, e, b, ex, k⟩ => ⟨s, e, b, _, ex, .inl ⟨rfl, rfl⟩, k⟩)
theorem w_end (R : RwF K) (h : W K E te δ (fun x δ1 => ∃ (s e : Int) (b : Bool), x = .d (.row s e b) ∧ P (.d (.int e)) δ1) X) : W K E (tFld K te "end") δ P X := w_fldRow R (h.imp fun _ _ ⟨s, e, b, ex, k⟩ => ⟨s, e, b, _, ex, .inr (.inl ⟨rfl, rfl⟩), k⟩)
theorem w_soft (R : RwF K) (h : W K E te δ (fun x δ1 => ∃ (s e : Int) (b : Bool), x = .d (.row s e b) ∧ P (.d (.bl b)) δ1) X) : W K E (tFld K te "is_soft") δ P X := w_fldRow R (h.imp fun _ _ ⟨s, e, b, ex, k⟩ => ⟨s, e, b, _, ex, .inr (.inr ⟨rfl, rfl⟩), k⟩)
/-- a pure method of a row, without arguments -/
theorem w_methRow {E' : XK} {f : FP} {m : Str} (hm : m ∉ (["start", "end", "is_soft"] : List Str)) (h : W K E te δ (fun x δ1 => ∃ (s e : Int) (b : Bool), x = .d (.row s e b) ∧ f [.row s e b] (fun d => P (.d d) δ1) (fun _ => False)) X) : W K E (tMeth (He.ga K "Row") m (SpOf K (PF f)) [] E' te tNil) δ P X := by
  intro w σ Hb H s Q q e
  refine h w σ Hb H s _ (fun x δ1 v w1 Hb1 H1 ⟨i, j, b, ex, k⟩ s1 r1 f1 => ?_) e
  subst ex
  have r1' : Rp K Hb1 v (.row i j b) := r1
  cases r1' with
  | @row a dx _ _ _ ha =>
    refine ⟨a, dx, _, rfl, s1.sub _ _ ha, ?_, ?_⟩
    · simp only [List.mem_cons, List.not_mem_nil, or_false, not_or] at hm
      obtain ⟨m1, m2, m3⟩ := hm
      unfold rowF
      simp only [List.lookup]
      rw [beq_false_of_ne m1, beq_false_of_ne m2, beq_false_of_ne m3]
    · exact cl_run (X := X0) s1 (.cons r1 .nil) (cl_data (ds := [.row i j b]) k) (fun x δ' v w' Hb' H' p s' r' f' => q x δ' v w' Hb' H' p s' r' (f1.trans f')) fun _ _ _ _ _ z => z.elim
theorem w_extend {ta : TE} (h : W K E ta δ (fun x δ1 => ∃ (p : Addr) (i : Nat), x = .a p ∧ (∃ es, δ1[i]? = some (some (.o p (olst K es)))) ∧ W K E te δ1 (fun y δ2 => ∃ es ds, y = .d (.lst es) ∧ δ2[i]? = some (some (.o p (olst K ds))) ∧ ds.length + es.length < 90000 ∧ P (.d .non) (δ2.set i (some (.o p (olst K (ds ++ es)))))) X) X) : W K E (tBM K "list" rExtend ta (tCons te tNil)) δ P X := fun w σ Hb H s Q q e => by
  refine h w σ Hb H s _ (fun x δ1 v w1 Hb1 H1 ⟨p, i, ex, ⟨es, k0⟩, k⟩ s1 r1 f1 => ?_) e
  subst ex
  have ev : v = .ref p := r1
  subst ev
  obtain ⟨_, _, _, xs0, z1, _, _⟩ := s1.val i _ k0
  refine ⟨.inl ⟨rfl, _, .inl (.inl z1)⟩, k w1 σ Hb1 H1 s1 _ (fun y δ2 u w2 Hb2 H2 ⟨es, ds, ey, hi, hz, k2⟩ s2 r2 f2 => ?_) (e.on f1)⟩
  subst ey
  obtain ⟨_, _, _, xs, h1, h2, h3⟩ := s2.val i _ hi
  have r2 : Rp K Hb2 u (.lst es) := r2
  cases r2 with
  | @lst b zs _ hb rb =>
    refine ⟨p, b, xs, zs, rfl, rfl, h1, s2.sub _ _ hb, sz (by rw [h2.length, rb.length]; omega), ?_⟩
    obtain ⟨s3, f3⟩ := s2.turn0 (A' := olst K (ds ++ es)) (H' := upd H2 p (.lst (xs ++ zs))) hi (fun a o ha hn => by rw [upd_ne (fun z => hn ((h3 a).mpr z))]; exact ha) (fun a ha => by
      by_cases z : a = p
      · subst z
        rw [upd_same]
        exact fun z => nomatch z
      · rw [upd_ne z]
        exact ha) ⟨_, upd_same, h2.append rb, h3⟩
    exact q _ _ _ w2 Hb2 _ k2 s3 .non ((f1.trans f2).trans f3)
theorem rd_leS {a b : List Nat} (k : P (.d (.bl (!decide (b < a)))) δ) : RD K E rLeStr (.d (.str a)) (.d (.str b)) δ P X := rd_pure (fun Hb H v u _ r1 r2 Q q => by
  cases r1
  cases r2
  exact ⟨_, _, rfl, rfl, q _ (.bl _)⟩) k
theorem cd_isBl {b : Bool} (k : P (.d (.bl true)) δ) : CD K E (rIsi K) [.d (.bl b), .t "bool"] δ P X := cd_pure (fun w σ Hb H vs s rv Q q => by
  cases rv with
  | cons a t =>
    cases t with
    | cons c t =>
      cases t
      cases a
      cases c
      exact ⟨_, _, .type "bool", .type "bool", true, rfl, .ty "bool", .base (.bl b), if_pos (beq_self_eq_true _), q _ (.bl _)⟩) k
end
end Cr

namespace Cr
open PySem L2
local macro_rules | `(tactic| walk_at "x") => `(tactic| first | with_reducible refine t_seq ?_ | with_reducible refine t_ret ?_ | with_reducible refine t_set ?_ | with_reducible refine t_drop ?_ | with_reducible refine t_if ?_ | with_reducible refine t_next ?_ | with_reducible refine t_raise ?_ | with_reducible refine t_asg ?_ | with_reducible refine t_retN ?_ | with_reducible refine w_op ?_ | ((with_reducible refine' w_var ?h ?_); (case h => rfl)) | ((with_reducible refine' w_own ?h ?_); (case h => rfl)) | with_reducible refine w_int ?_ | ((with_reducible refine' w_k ?h ?_); (case h => decide +kernel)) | with_reducible refine w_bl ?_ | with_reducible refine w_non ?_ | with_reducible refine w_if ?_ | with_reducible refine w_andV ?_ | with_reducible refine w_orV ?_ | with_reducible refine w_notV ?_ | with_reducible refine w_tup ?_ | with_reducible refine w_lst ?_ | with_reducible refine w_cb ?_ | with_reducible refine w_chain ?_ | with_reducible refine w_slS ?_ | with_reducible refine w_slL ?_ | with_reducible refine w_find1 ?_ | with_reducible refine w_find2 ?_ | with_reducible refine w_rfind1 ?_ | with_reducible refine w_rfind3 ?_ | with_reducible refine w_neg ?_ | with_reducible refine w_ref ?_ | with_reducible refine w_ty ?_ | with_reducible refine wt_test ?_ | with_reducible refine wt_B ?_ | with_reducible refine wt_and ?_ | with_reducible refine wt_or ?_ | with_reducible refine wt_not ?_ | with_reducible refine wt_yes ?_ | with_reducible refine wd_nil ?_ | with_reducible refine wd_cons ?_ | with_reducible refine wa_nil ?_ | with_reducible refine wa_cons ?_ | with_reducible refine wo_none ?_ | with_reducible refine wo_some ?_ | with_reducible refine rd_I0i ?_ | with_reducible refine rd_I0b ?_ | with_reducible refine rd_eqI ?_ | with_reducible refine rd_neI ?_ | with_reducible refine rd_eqS ?_ | with_reducible refine rd_neS ?_ | with_reducible refine rd_isN ?_ | with_reducible refine rd_notN ?_ | with_reducible refine rd_inSign ?_ | with_reducible refine cd_lenL ?_ | ((with_reducible refine' cd_lenS ?h ?_); (case h => first | assumption | omega)) | with_reducible refine cd_lenT ?_ | with_reducible refine cd_lenR ?_ | with_reducible refine cd_abs ?_ | with_reducible refine cd_max2 ?_ | with_reducible refine cd_min2 ?_ | with_reducible refine cd_intB ?_ | with_reducible refine cd_ord ?_ | with_reducible refine g_name ?_ | with_reducible refine ⟨_, rfl, ?_⟩ | with_reducible refine rd_leS ?_)
local macro_rules | `(tactic| walk_at "xs") => `(tactic| repeat (first | with_reducible refine t_seq ?_ | with_reducible refine t_ret ?_ | with_reducible refine t_set ?_ | with_reducible refine t_drop ?_ | with_reducible refine t_if ?_ | with_reducible refine t_next ?_ | with_reducible refine t_raise ?_ | with_reducible refine t_asg ?_ | with_reducible refine t_retN ?_ | with_reducible refine w_op ?_ | ((with_reducible refine' w_var ?h ?_); (case h => rfl)) | ((with_reducible refine' w_own ?h ?_); (case h => rfl)) | with_reducible refine w_int ?_ | ((with_reducible refine' w_k ?h ?_); (case h => decide +kernel)) | with_reducible refine w_bl ?_ | with_reducible refine w_non ?_ | with_reducible refine w_if ?_ | with_reducible refine w_andV ?_ | with_reducible refine w_orV ?_ | with_reducible refine w_notV ?_ | with_reducible refine w_tup ?_ | with_reducible refine w_lst ?_ | with_reducible refine w_cb ?_ | with_reducible refine w_chain ?_ | with_reducible refine w_slS ?_ | with_reducible refine w_slL ?_ | with_reducible refine w_find1 ?_ | with_reducible refine w_find2 ?_ | with_reducible refine w_rfind1 ?_ | with_reducible refine w_rfind3 ?_ | with_reducible refine w_neg ?_ | with_reducible refine w_ref ?_ | with_reducible refine w_ty ?_ | with_reducible refine wt_test ?_ | with_reducible refine wt_B ?_ | with_reducible refine wt_and ?_ | with_reducible refine wt_or ?_ | with_reducible refine wt_not ?_ | with_reducible refine wt_yes ?_ | with_reducible refine wd_nil ?_ | with_reducible refine wd_cons ?_ | with_reducible refine wa_nil ?_ | with_reducible refine wa_cons ?_ | with_reducible refine wo_none ?_ | with_reducible refine wo_some ?_ | with_reducible refine rd_I0i ?_ | with_reducible refine rd_I0b ?_ | with_reducible refine rd_eqI ?_ | with_reducible refine rd_neI ?_ | with_reducible refine rd_eqS ?_ | with_reducible refine rd_neS ?_ | with_reducible refine rd_isN ?_ | with_reducible refine rd_notN ?_ | with_reducible refine rd_inSign ?_ | with_reducible refine cd_lenL ?_ | ((with_reducible refine' cd_lenS ?h ?_); (case h => first | assumption | omega)) | with_reducible refine cd_lenT ?_ | with_reducible refine cd_lenR ?_ | with_reducible refine cd_abs ?_ | with_reducible refine cd_max2 ?_ | with_reducible refine cd_min2 ?_ | with_reducible refine cd_intB ?_ | with_reducible refine cd_ord ?_ | with_reducible refine g_name ?_ | with_reducible refine ⟨_, rfl, ?_⟩ | with_reducible refine rd_leS ?_ | simp only [List.set_cons_succ, List.set_cons_zero]))
def gl : List Nat := [65, 66, 67, 68, 69, 70, 71, 72, 73, 74, 75, 76, 77, 78, 79, 80, 81, 82, 83, 84, 85, 86, 87, 88, 89, 90]
theorem gl_mem (c : Nat) : decide (c ∈ gl) = gr c := by
  unfold gr gl
  refine decide_eq_decide.mpr ⟨fun h => ?_, fun h => ?_⟩
  · simp only [List.mem_cons, List.not_mem_nil, or_false] at h
    omega
  · simp only [List.mem_cons, List.not_mem_nil, or_false]
    omega
def f_wide (K : PySem.W.Frag) : FP := fun ds R _ => ∃ l : List Nat, ds = [.str l] ∧ l.length ≤ 8000000 ∧ R (.int (wd l : Nat))
abbrev sp_wide (K : PySem.W.Frag) : Sp := SpOf K (PF (f_wide K))
def t_wide (K : PySem.W.Frag) (E : XK) : TS := (tRet (tOp rPlus (tCB (rLen K) (tCons (tVar 0) tNil)) (tCB (rLen K) (tCons (tLc (iStr (tVar 0)) (gName 1) (tTest (tOp rInSign (tVar 1) (tC (.str "ABCDEFGHIJKLMNOPQRSTUVWXYZ")))) (tVar 1) [1]) tNil))))
theorem len_f_wide {K : PySem.W.Frag} : ∀ ds R X, f_wide K ds R X → ds.length = 1 := by
  rintro ds R X ⟨_, rfl, _⟩
  rfl
theorem len_wide {K : PySem.W.Frag} : ∀ vs H Q E, sp_wide K vs H Q E → vs.length = 1 := fun _ _ _ _ h => spOf_len (pf_len len_f_wide) h
def kS (q : Nat → Bool) : Da → Option Da
  | .str [c] => if q c then some (.str [c]) else none
  | _ => none
theorem filter_signs (l : List Nat) (q : Nat → Bool) : (l.map fun c => Da.str [c]).filterMap (kS q) = (l.filter q).map fun c => Da.str [c] := by
  induction l with
  | nil => rfl
  | cons a r ih =>
    rw [List.map_cons, List.filterMap_cons, List.filter_cons]
    have e : kS q (.str [a]) = if q a then some (.str [a]) else none := rfl
    rw [e]
    cases h : q a
    · simp [ih]
    · simp [ih]
theorem pure_wide {K : PySem.W.Frag} {vs : List V} {H : Hp} {Q : VK} {E : XK} (h : sp_wide K vs H Q E) : t_wide K E { nx := fun _ H' => Q .non H', rt := Q } (L2.start ["text", "sign"] vs) H := by
  refine bodyP (ts := t_wide K) 1 1 rfl len_f_wide (fun ds R X ⟨l, e, hl, hk⟩ => ?_) h
  subst e
  show T K _ (t_wide K E) [some (.d (.str l)), none] _ _ _
  unfold t_wide
  walk_at "xs"
  refine w_lcP (kS gr) (wi_str ?_)
  walk_at "xs"
  refine ⟨noneAt1 rfl, by rw [List.length_map]; omega, fun i d hd => ?_, ?_⟩
  · obtain ⟨c, hc, rfl⟩ := signs_get hd
    refine gv_name (by simp) ?_
    walk_at "xs"
    refine w_str gl (by decide +kernel) ?_
    walk_at "xs"
    rw [gl_mem]
    refine ⟨fun hb => ?_, fun hb => ?_⟩
    · walk_at "xs"
      refine ⟨?_, rfl⟩
      show (if gr c then _ else _) = _
      rw [if_pos hb]
    · refine ⟨?_, rfl⟩
      show (if gr c = true then _ else _) = _
      rw [if_neg (by rw [hb]; decide)]
  rw [filter_signs]
  walk_at "xs"
  rw [List.length_map]
  have := wd_len l
  rw [this] at hk
  exact hk
def f_look_width' (K : PySem.W.Frag) : FP := f_look_width
def t_look_width (K : PySem.W.Frag) (E : XK) : TS := (tIfS (tNot (tTest (tChain rLe' rLe' (tC (.int 2)) (tVar 0) (tC (.int 200))))) (tRz E (He.ga K "BadSize")) tNext)
theorem pure_look_width {K : PySem.W.Frag} {vs : List V} {H : Hp} {Q : VK} {E : XK} (h : sp_look_width K vs H Q E) : t_look_width K E { nx := fun _ H' => Q .non H', rt := Q } (L2.start ["width"] vs) H := by
  refine bodyP (ts := t_look_width K) 1 0 rfl len_f_look_width (fun ds R X ⟨w, e, h1, h2⟩ => ?_) h
  subst e
  show T K _ (t_look_width K E) [some (.d (.int w))] _ _ _
  unfold t_look_width
  walk_at "xs"
  refine ⟨fun hb => ?_, fun hb => ?_⟩
  · walk_at "xs"
    refine ⟨fun hc => t_raise (h2 ?_), fun hc => t_next (h1 ?_)⟩
    · simp at hb hc
      omega
    · simp at hb hc
      omega
  · refine ⟨_, rfl, fun hc => t_raise (h2 ?_), fun hc => nomatch hc⟩
    simp at hb
    omega
def f_Row_told (K : PySem.W.Frag) : FP := fun ds R _ => ∃ (s e : Int) (b : Bool), ds = [.row s e b] ∧ RwF K ∧ R (.tup [.int s, .int e, .bl b])
abbrev sp_Row_told (K : PySem.W.Frag) : Sp := SpOf K (PF (f_Row_told K))
def t_Row_told (K : PySem.W.Frag) (E : XK) : TS := (tRet (tTup (tCons (tFld K (tVar 0) "start") (tCons (tFld K (tVar 0) "end") (tCons (tFld K (tVar 0) "is_soft") tNil)))))
theorem len_f_Row_told {K : PySem.W.Frag} : ∀ ds R X, f_Row_told K ds R X → ds.length = 1 := by
  rintro ds R X ⟨_, _, _, rfl, _⟩
  rfl
theorem len_Row_told {K : PySem.W.Frag} : ∀ vs H Q E, sp_Row_told K vs H Q E → vs.length = 1 := fun _ _ _ _ h => spOf_len (pf_len len_f_Row_told) h
theorem pure_Row_told {K : PySem.W.Frag} {vs : List V} {H : Hp} {Q : VK} {E : XK} (h : sp_Row_told K vs H Q E) : t_Row_told K E { nx := fun _ H' => Q .non H', rt := Q } (L2.start ["self"] vs) H := by
  refine bodyP (ts := t_Row_told K) 1 0 rfl len_f_Row_told (fun ds R X ⟨s, e, b, ed, F, hk⟩ => ?_) h
  subst ed
  show T K _ (t_Row_told K E) [some (.d (.row s e b))] _ _ _
  unfold t_Row_told
  walk_at "xs"
  refine w_start F ?_
  walk_at "xs"
  refine ⟨_, _, _, rfl, _, rfl, ?_⟩
  walk_at "xs"
  refine w_end F ?_
  walk_at "xs"
  refine ⟨_, _, _, rfl, _, rfl, ?_⟩
  walk_at "xs"
  refine w_soft F ?_
  walk_at "xs"
  refine ⟨_, _, _, rfl, _, rfl, ?_⟩
  walk_at "xs"
  exact ⟨by show 3 ≤ 16000000; decide, hk⟩
def f_fitting (K : PySem.W.Frag) : FP := fun ds R _ => ∃ (t : List Nat) (s l w : Nat), ds = [.str t, .int s, .int l, .int w] ∧ t.length ≤ 2000 ∧ s ≤ l ∧ l ≤ t.length ∧ R (.int ((s + fitN w (seg t s l) : Nat) : Int))
abbrev sp_fitting (K : PySem.W.Frag) : Sp := SpOf K (PF (f_fitting K))
def t_fitting (K : PySem.W.Frag) (E : XK) : TS := (tSeq (tAsg (tVar 1) (gName 4))
  (tSeq (tAsg (tVar 3) (gName 5))
  (tSeq (tWhile (tAnd (tTest (tOp rLt' (tVar 4) (tVar 2))) (tTest (tOp rLe' (tCall (sp_wide K) [] L2.E0 (tCons (tOp rIxS (tVar 0) (tVar 4)) tNil)) (tVar 5)))) (tSeq (tAsg (tOp rMinus (tVar 5) (tCall (sp_wide K) [] L2.E0 (tCons (tOp rIxS (tVar 0) (tVar 4)) tNil))) (gName 5))
  (tAsg (tOp rPlus (tVar 4) (tC (.int 1))) (gName 4))))
  (tRet (tVar 4)))))
theorem len_f_fitting {K : PySem.W.Frag} : ∀ ds R X, f_fitting K ds R X → ds.length = 4 := by
  rintro ds R X ⟨_, _, _, _, rfl, _⟩
  rfl
theorem len_fitting {K : PySem.W.Frag} : ∀ vs H Q E, sp_fitting K vs H Q E → vs.length = 4 := fun _ _ _ _ h => spOf_len (pf_len len_f_fitting) h
theorem fit_step {r : Nat} {p : List Nat} {i c : Nat} (h : p[i]? = some c) (hc : w1 c ≤ r) : i + fitN r (p.drop i) = (i + 1) + fitN (r - w1 c) (p.drop (i + 1)) := by
  have : p.drop i = c :: p.drop (i + 1) := by
    rw [List.drop_eq_getElem_cons (List.getElem?_eq_some_iff.mp h).1]
    rw [(List.getElem?_eq_some_iff.mp h).2]
  rw [this]
  show i + (if w1 c ≤ r then fitN (r - w1 c) (p.drop (i + 1)) + 1 else 0) = _
  rw [if_pos hc]
  omega
theorem fit_stop {r : Nat} {p : List Nat} {i : Nat} (h : p.length ≤ i ∨ ∃ c, p[i]? = some c ∧ ¬ w1 c ≤ r) : fitN r (p.drop i) = 0 := by
  rcases h with h | ⟨c, h, hc⟩
  · rw [List.drop_of_length_le h]
    rfl
  · have : p.drop i = c :: p.drop (i + 1) := by
      rw [List.drop_eq_getElem_cons (List.getElem?_eq_some_iff.mp h).1]
      rw [(List.getElem?_eq_some_iff.mp h).2]
    rw [this]
    show (if w1 c ≤ r then _ else 0) = 0
    rw [if_neg hc]
theorem atI_nat {α : Type} {l : List α} {i : Nat} {a : α} (h : l[i]? = some a) : atI l (i : Int) = some a := by
  obtain ⟨v, h1, h2⟩ := atI_ok (l := l) (i := (i : Int)) (by omega) (by have := (List.getElem?_eq_some_iff.mp h).1; omega)
  rw [h1, ← h2, Int.toNat_natCast, h]
theorem wd_one (c : Nat) : wd [c] = w1 c := by simp [wd]
theorem pure_fitting {K : PySem.W.Frag} {vs : List V} {H : Hp} {Q : VK} {E : XK} (h : sp_fitting K vs H Q E) : t_fitting K E { nx := fun _ H' => Q .non H', rt := Q } (L2.start ["text", "start", "last", "width", "end", "room"] vs) H := by
  refine bodyP (ts := t_fitting K) 4 2 rfl len_f_fitting (fun ds R X ⟨t, s, l, w, e, ht, h1, h2, hk⟩ => ?_) h
  subst e
  show T K _ (t_fitting K E) [some (.d (.str t)), some (.d (.int s)), some (.d (.int l)), some (.d (.int w)), none, none] _ _ _
  unfold t_fitting
  have sl := seg_len h1 h2
  generalize hp : seg t s l = p at hk sl
  have pg : ∀ i, i < p.length → p[i]? = t[s + i]? := fun i hi => by rw [← hp]; exact seg_get (by omega)
  walk_at "xs"
  refine t_while (fun m δ => ∃ i r : Nat, m = l - (s + i) ∧ s + i ≤ l ∧ fitN w p = i + fitN r (p.drop i) ∧ δ = [some (.d (.str t)), some (.d (.int s)), some (.d (.int l)), some (.d (.int w)), some (.d (.int ((s + i : Nat) : Int))), some (.d (.int (r : Int)))]) (l - s) ⟨0, w, rfl, by omega, by simp, rfl⟩ ?_
  rintro m δ ⟨i, r, rfl, hil, hf, rfl⟩
  walk_at "xs"
  refine ⟨fun hb => ?_, fun hb => ?_⟩
  · have hb := of_decide_eq_true hb
    have hi : i < p.length := by omega
    obtain ⟨c, hc⟩ : ∃ c, p[i]? = some c := ⟨_, List.getElem?_eq_getElem hi⟩
    have htc : t[s + i]? = some c := by rw [← pg i hi]; exact hc
    walk_at "xs"
    refine w_fn ?_
    walk_at "xs"
    refine rd_ixS (by omega) (atI_nat htc) ⟨_, rfl, ?_⟩
    walk_at "xs"
    refine ⟨_, rfl, by show 1 ≤ 8000000; decide, ?_⟩
    walk_at "xs"
    rw [wd_one]
    refine ⟨fun hb2 => ?_, fun hb2 => ?_⟩
    · have hb2 := of_decide_eq_true hb2
      walk_at "xs"
      refine w_fn ?_
      walk_at "xs"
      refine rd_ixS (by omega) (atI_nat htc) ⟨_, rfl, ?_⟩
      walk_at "xs"
      refine ⟨_, rfl, by show 1 ≤ 8000000; decide, ?_⟩
      walk_at "xs"
      rw [wd_one]
      refine ⟨l - (s + (i + 1)), by omega, i + 1, r - w1 c, rfl, by omega, ?_, ?_⟩
      · rw [hf, fit_step hc (by omega)]
      · have e1 : ((s + i : Nat) : Int) + 1 = ((s + (i + 1) : Nat) : Int) := by omega
        have e2 : (r : Int) - ((w1 c : Nat) : Int) = ((r - w1 c : Nat) : Int) := by omega
        rw [e1, e2]
    · have hb2 := of_decide_eq_false hb2
      walk_at "xs"
      rw [fit_stop (.inr ⟨c, hc, by omega⟩), Nat.add_zero] at hf
      rw [hf] at hk
      exact hk
  · have hb := of_decide_eq_false hb
    refine ⟨(fun z => nomatch z), fun _ => ?_⟩
    walk_at "xs"
    rw [fit_stop (.inl (by omega)), Nat.add_zero] at hf
    rw [hf] at hk
    exact hk
def f_row_end (K : PySem.W.Frag) : FP := fun ds R _ => ∃ (t : List Nat) (s l w : Nat), ds = [.str t, .int s, .int l, .int w] ∧ t.length ≤ 2000 ∧ s ≤ l ∧ l ≤ t.length ∧ R (.int ((s + rowN w (seg t s l) : Nat) : Int))
abbrev sp_row_end (K : PySem.W.Frag) : Sp := SpOf K (PF (f_row_end K))
def t_row_end (K : PySem.W.Frag) (E : XK) : TS := (tSeq (tAsg (tCall (sp_fitting K) [] L2.E0 (tCons (tVar 0) (tCons (tVar 1) (tCons (tVar 2) (tCons (tVar 3) tNil))))) (gName 4))
  (tSeq (tWhile (tAnd (tTest (tOp rLt' (tVar 4) (tVar 2))) (tTest (tOp rEq (tOp rIxS (tVar 0) (tVar 4)) (tK [32] " ")))) (tAsg (tOp rPlus (tVar 4) (tC (.int 1))) (gName 4)))
  (tSeq (tIfS (tTest (tOp rEq (tVar 4) (tVar 2))) (tRet (tVar 2)) tNext)
  (tSeq (tAsg (tVar 4) (gName 5))
  (tSeq (tWhile (tAnd (tTest (tOp rGt' (tVar 5) (tVar 1))) (tTest (tOp rNe (tOp rIxS (tVar 0) (tOp rMinus (tVar 5) (tC (.int 1)))) (tK [32] " ")))) (tAsg (tOp rMinus (tVar 5) (tC (.int 1))) (gName 5)))
  (tRet (tIf (tTest (tOp rGt' (tVar 5) (tVar 1))) (tVar 5) (tVar 4))))))))
theorem len_f_row_end {K : PySem.W.Frag} : ∀ ds R X, f_row_end K ds R X → ds.length = 4 := by
  rintro ds R X ⟨_, _, _, _, rfl, _⟩
  rfl
theorem len_row_end {K : PySem.W.Frag} : ∀ vs H Q E, sp_row_end K vs H Q E → vs.length = 4 := fun _ _ _ _ h => spOf_len (pf_len len_f_row_end) h
theorem bl_step {p : List Nat} {i : Nat} (h : p[i]? = some 32) : i + blN (p.drop i) = (i + 1) + blN (p.drop (i + 1)) := by
  have : p.drop i = 32 :: p.drop (i + 1) := by
    rw [List.drop_eq_getElem_cons (List.getElem?_eq_some_iff.mp h).1]
    rw [(List.getElem?_eq_some_iff.mp h).2]
  rw [this]
  show i + (if 32 = 32 then blN (p.drop (i + 1)) + 1 else 0) = _
  rw [if_pos rfl]
  omega
theorem bl_stop {p : List Nat} {i : Nat} (h : p.length ≤ i ∨ ∃ c, p[i]? = some c ∧ c ≠ 32) : blN (p.drop i) = 0 := by
  rcases h with h | ⟨c, h, hc⟩
  · rw [List.drop_of_length_le h]
    rfl
  · have : p.drop i = c :: p.drop (i + 1) := by
      rw [List.drop_eq_getElem_cons (List.getElem?_eq_some_iff.mp h).1]
      rw [(List.getElem?_eq_some_iff.mp h).2]
    rw [this]
    show (if c = 32 then _ else 0) = 0
    rw [if_neg hc]
theorem pure_row_end {K : PySem.W.Frag} {vs : List V} {H : Hp} {Q : VK} {E : XK} (h : sp_row_end K vs H Q E) : t_row_end K E { nx := fun _ H' => Q .non H', rt := Q } (L2.start ["text", "start", "last", "width", "end", "cut"] vs) H := by
  refine bodyP (ts := t_row_end K) 4 2 rfl len_f_row_end (fun ds R X ⟨t, s, l, w, e, ht, h1, h2, hk⟩ => ?_) h
  subst e
  show T K _ (t_row_end K E) [some (.d (.str t)), some (.d (.int s)), some (.d (.int l)), some (.d (.int w)), none, none] _ _ _
  unfold t_row_end
  have sl := seg_len h1 h2
  walk_at "xs"
  refine w_fn ?_
  walk_at "xs"
  refine ⟨t, s, l, w, rfl, ht, h1, h2, ?_⟩
  generalize hp : seg t s l = p at hk sl ⊢
  have pg : ∀ i, i < p.length → p[i]? = t[s + i]? := fun i hi => by rw [← hp]; exact seg_get (by omega)
  have fle := fit_len w p
  have ele := end_len w p
  walk_at "xs"
  refine t_while (fun m δ => ∃ i : Nat, m = l - (s + i) ∧ s + i ≤ l ∧ endN w p = i + blN (p.drop i) ∧ δ = [some (.d (.str t)), some (.d (.int s)), some (.d (.int l)), some (.d (.int w)), some (.d (.int ((s + i : Nat) : Int))), none]) (l - (s + fitN w p)) ⟨fitN w p, rfl, by omega, rfl, rfl⟩ ?_
  rintro m δ ⟨i, rfl, hil, hf, rfl⟩
  have stop : blN (p.drop i) = 0 → T K (fun c d _ H => E c d H) (tSeq (tIfS (tTest (tOp rEq (tVar 4) (tVar 2))) (tRet (tVar 2)) tNext)
      (tSeq (tAsg (tVar 4) (gName 5)) (tSeq (tWhile (tAnd (tTest (tOp rGt' (tVar 5) (tVar 1))) (tTest (tOp rNe (tOp rIxS (tVar 0) (tOp rMinus (tVar 5) (tC (V.int 1)))) (tK [32] " ")))) (tAsg (tOp rMinus (tVar 5) (tC (V.int 1))) (gName 5)))
        (tRet (tIf (tTest (tOp rGt' (tVar 5) (tVar 1))) (tVar 5) (tVar 4)))))) [some (.d (.str t)), some (.d (.int s)), some (.d (.int l)), some (.d (.int w)), some (.d (.int ((s + i : Nat) : Int))), none] (fun _ => R .non) (fun x δ' => RetD K 4 x δ' R) (fun C _ => X C) := fun hz => by
    have hi : endN w p = i := by omega
    unfold rowN at hk
    rw [hi] at hk
    walk_at "xs"
    refine ⟨fun hb => ?_, fun hb => ?_⟩
    · have hb := of_decide_eq_true hb
      walk_at "xs"
      rw [if_pos (by omega)] at hk
      have e : ((s + p.length : Nat) : Int) = (l : Int) := by omega
      rw [e] at hk
      exact hk
    · have hb := of_decide_eq_false hb
      rw [if_neg (by omega)] at hk
      walk_at "xs"
      refine t_while (fun m δ => ∃ c : Nat, c = m ∧ c ≤ i ∧ cbN p i = cbN p c ∧ δ = [some (.d (.str t)), some (.d (.int s)), some (.d (.int l)), some (.d (.int w)), some (.d (.int ((s + i : Nat) : Int))), some (.d (.int ((s + c : Nat) : Int)))]) i ⟨i, rfl, Nat.le_refl _, rfl, rfl⟩ ?_
      rintro m δ ⟨c, rfl, hci, hcb, rfl⟩
      walk_at "xs"
      have fin : cbN p c = c → T K (fun c d _ H => E c d H) (tRet (tIf (tTest (tOp rGt' (tVar 5) (tVar 1))) (tVar 5) (tVar 4))) [some (.d (.str t)), some (.d (.int s)), some (.d (.int l)), some (.d (.int w)), some (.d (.int ((s + i : Nat) : Int))), some (.d (.int ((s + c : Nat) : Int)))] (fun _ => R .non) (fun x δ' => RetD K 4 x δ' R) (fun C _ => X C) := fun hc => by
        rw [hcb, hc] at hk
        walk_at "xs"
        refine ⟨fun hb => ?_, fun hb => ?_⟩
        · have hb := of_decide_eq_true hb
          walk_at "xs"
          rw [if_pos (by omega)] at hk
          exact hk
        · have hb := of_decide_eq_false hb
          walk_at "xs"
          rw [if_neg (by omega)] at hk
          exact hk
      refine ⟨fun hb2 => ?_, fun hb2 => ?_⟩
      · have hb2 := of_decide_eq_true hb2
        obtain ⟨c, rfl⟩ : ∃ d, c = d + 1 := ⟨c - 1, by omega⟩
        have hcl : c < p.length := by omega
        obtain ⟨x, hx⟩ : ∃ x, p[c]? = some x := ⟨_, List.getElem?_eq_getElem hcl⟩
        have htx : t[s + c]? = some x := by rw [← pg c hcl]; exact hx
        have e1 : ((s + (c + 1) : Nat) : Int) - 1 = ((s + c : Nat) : Int) := by omega
        walk_at "xs"
        rw [e1]
        refine rd_ixS (by omega) (atI_nat htx) ?_
        walk_at "xs"
        refine ⟨fun hb3 => ?_, fun hb3 => ?_⟩
        · walk_at "xs"
          rw [e1]
          refine ⟨c, by omega, c, rfl, by omega, ?_, rfl⟩
          rw [hcb]
          show (if p[c]? = some 32 then c + 1 else cbN p c) = cbN p c
          rw [if_neg]
          rw [hx]
          intro z
          cases z
          exact nomatch hb3
        · refine fin ?_
          show (if p[c]? = some 32 then c + 1 else cbN p c) = c + 1
          rw [if_pos]
          simp at hb3
          rw [hx, hb3]
      · have hb2 := of_decide_eq_false hb2
        refine ⟨(fun z => nomatch z), fun _ => fin ?_⟩
        obtain rfl : c = 0 := by omega
        rfl
  walk_at "xs"
  refine ⟨fun hb => ?_, fun hb => ?_⟩
  · have hb := of_decide_eq_true hb
    have hi : i < p.length := by omega
    obtain ⟨c, hc⟩ : ∃ c, p[i]? = some c := ⟨_, List.getElem?_eq_getElem hi⟩
    have htc : t[s + i]? = some c := by rw [← pg i hi]; exact hc
    walk_at "xs"
    refine rd_ixS (by omega) (atI_nat htc) ?_
    walk_at "xs"
    refine ⟨fun hb2 => ?_, fun hb2 => stop ?_⟩
    · simp at hb2
      subst hb2
      walk_at "xs"
      refine ⟨l - (s + (i + 1)), by omega, i + 1, rfl, by omega, ?_, ?_⟩
      · rw [hf, bl_step hc]
      · rfl
    · exact bl_stop (.inr ⟨c, hc, fun z => by subst z; exact nomatch hb2⟩)
  · have hb := of_decide_eq_false hb
    exact ⟨(fun z => nomatch z), fun _ => stop (bl_stop (.inl (by omega)))⟩
end Cr

namespace Cr
open PySem L2
local macro_rules | `(tactic| walk_at "x") => `(tactic| first | with_reducible refine t_seq ?_ | with_reducible refine t_ret ?_ | with_reducible refine t_set ?_ | with_reducible refine t_drop ?_ | with_reducible refine t_if ?_ | with_reducible refine t_next ?_ | with_reducible refine t_raise ?_ | with_reducible refine t_asg ?_ | with_reducible refine t_retN ?_ | with_reducible refine w_op ?_ | ((with_reducible refine' w_var ?h ?_); (case h => rfl)) | ((with_reducible refine' w_own ?h ?_); (case h => rfl)) | with_reducible refine w_int ?_ | ((with_reducible refine' w_k ?h ?_); (case h => decide +kernel)) | with_reducible refine w_bl ?_ | with_reducible refine w_non ?_ | with_reducible refine w_if ?_ | with_reducible refine w_andV ?_ | with_reducible refine w_orV ?_ | with_reducible refine w_notV ?_ | with_reducible refine w_tup ?_ | with_reducible refine w_lst ?_ | with_reducible refine w_cb ?_ | with_reducible refine w_chain ?_ | with_reducible refine w_slS ?_ | with_reducible refine w_slL ?_ | with_reducible refine w_find1 ?_ | with_reducible refine w_find2 ?_ | with_reducible refine w_rfind1 ?_ | with_reducible refine w_rfind3 ?_ | with_reducible refine w_neg ?_ | with_reducible refine w_ref ?_ | with_reducible refine w_ty ?_ | with_reducible refine wt_test ?_ | with_reducible refine wt_B ?_ | with_reducible refine wt_and ?_ | with_reducible refine wt_or ?_ | with_reducible refine wt_not ?_ | with_reducible refine wt_yes ?_ | with_reducible refine wd_nil ?_ | with_reducible refine wd_cons ?_ | with_reducible refine wa_nil ?_ | with_reducible refine wa_cons ?_ | with_reducible refine wo_none ?_ | with_reducible refine wo_some ?_ | with_reducible refine rd_I0i ?_ | with_reducible refine rd_I0b ?_ | with_reducible refine rd_eqI ?_ | with_reducible refine rd_neI ?_ | with_reducible refine rd_eqS ?_ | with_reducible refine rd_neS ?_ | with_reducible refine rd_isN ?_ | with_reducible refine rd_notN ?_ | with_reducible refine rd_inSign ?_ | with_reducible refine cd_lenL ?_ | ((with_reducible refine' cd_lenS ?h ?_); (case h => first | assumption | omega)) | with_reducible refine cd_lenT ?_ | with_reducible refine cd_lenR ?_ | with_reducible refine cd_abs ?_ | with_reducible refine cd_max2 ?_ | with_reducible refine cd_min2 ?_ | with_reducible refine cd_intB ?_ | with_reducible refine cd_ord ?_ | with_reducible refine g_name ?_ | with_reducible refine ⟨_, rfl, ?_⟩ | with_reducible refine rd_leS ?_)
local macro_rules | `(tactic| walk_at "xs") => `(tactic| repeat (first | with_reducible refine t_seq ?_ | with_reducible refine t_ret ?_ | with_reducible refine t_set ?_ | with_reducible refine t_drop ?_ | with_reducible refine t_if ?_ | with_reducible refine t_next ?_ | with_reducible refine t_raise ?_ | with_reducible refine t_asg ?_ | with_reducible refine t_retN ?_ | with_reducible refine w_op ?_ | ((with_reducible refine' w_var ?h ?_); (case h => rfl)) | ((with_reducible refine' w_own ?h ?_); (case h => rfl)) | with_reducible refine w_int ?_ | ((with_reducible refine' w_k ?h ?_); (case h => decide +kernel)) | with_reducible refine w_bl ?_ | with_reducible refine w_non ?_ | with_reducible refine w_if ?_ | with_reducible refine w_andV ?_ | with_reducible refine w_orV ?_ | with_reducible refine w_notV ?_ | with_reducible refine w_tup ?_ | with_reducible refine w_lst ?_ | with_reducible refine w_cb ?_ | with_reducible refine w_chain ?_ | with_reducible refine w_slS ?_ | with_reducible refine w_slL ?_ | with_reducible refine w_find1 ?_ | with_reducible refine w_find2 ?_ | with_reducible refine w_rfind1 ?_ | with_reducible refine w_rfind3 ?_ | with_reducible refine w_neg ?_ | with_reducible refine w_ref ?_ | with_reducible refine w_ty ?_ | with_reducible refine wt_test ?_ | with_reducible refine wt_B ?_ | with_reducible refine wt_and ?_ | with_reducible refine wt_or ?_ | with_reducible refine wt_not ?_ | with_reducible refine wt_yes ?_ | with_reducible refine wd_nil ?_ | with_reducible refine wd_cons ?_ | with_reducible refine wa_nil ?_ | with_reducible refine wa_cons ?_ | with_reducible refine wo_none ?_ | with_reducible refine wo_some ?_ | with_reducible refine rd_I0i ?_ | with_reducible refine rd_I0b ?_ | with_reducible refine rd_eqI ?_ | with_reducible refine rd_neI ?_ | with_reducible refine rd_eqS ?_ | with_reducible refine rd_neS ?_ | with_reducible refine rd_isN ?_ | with_reducible refine rd_notN ?_ | with_reducible refine rd_inSign ?_ | with_reducible refine cd_lenL ?_ | ((with_reducible refine' cd_lenS ?h ?_); (case h => first | assumption | omega)) | with_reducible refine cd_lenT ?_ | with_reducible refine cd_lenR ?_ | with_reducible refine cd_abs ?_ | with_reducible refine cd_max2 ?_ | with_reducible refine cd_min2 ?_ | with_reducible refine cd_intB ?_ | with_reducible refine cd_ord ?_ | with_reducible refine g_name ?_ | with_reducible refine ⟨_, rfl, ?_⟩ | with_reducible refine rd_leS ?_ | simp only [List.set_cons_succ, List.set_cons_zero]))
def dR (r : R3) : Da := .row (r.1 : Int) (r.2.1 : Int) r.2.2
def f_paragraph_rows (K : PySem.W.Frag) : FP := fun ds R _ => ∃ (t : List Nat) (s l w : Nat), ds = [.str t, .int s, .int l, .int w] ∧ RwF K ∧ t.length ≤ 2000 ∧ s ≤ l ∧ l ≤ t.length ∧ 2 ≤ w ∧ R (.lst ((prows w s (seg t s l)).map dR))
abbrev sp_paragraph_rows (K : PySem.W.Frag) : Sp := SpOf K (PF (f_paragraph_rows K))
def t_paragraph_rows (K : PySem.W.Frag) (E : XK) : TS := (tSeq (tAsgN (tLst tNil) (gName 4))
  (tSeq (tAsg (tCall (sp_row_end K) [] L2.E0 (tCons (tVar 0) (tCons (tVar 1) (tCons (tVar 2) (tCons (tVar 3) tNil))))) (gName 5))
  (tSeq (tWhile (tTest (tOp rLt' (tVar 5) (tVar 2))) (tSeq (tDrop (tBM K "list" rAppend (tVar 4) (tCons (tMake (He.ga K "Row") (sp_Row_init K) [] L2.E0 (tCons (tVar 1) (tCons (tVar 5) (tCons (tC (.bl true)) tNil)))) tNil)))
  (tSeq (tAsg (tVar 5) (gName 1))
  (tAsg (tCall (sp_row_end K) [] L2.E0 (tCons (tVar 0) (tCons (tVar 1) (tCons (tVar 2) (tCons (tVar 3) tNil))))) (gName 5)))))
  (tSeq (tDrop (tBM K "list" rAppend (tVar 4) (tCons (tMake (He.ga K "Row") (sp_Row_init K) [] L2.E0 (tCons (tVar 1) (tCons (tVar 2) (tCons (tC (.bl false)) tNil)))) tNil)))
  (tRet (tVar 4))))))
theorem len_f_paragraph_rows {K : PySem.W.Frag} : ∀ ds R X, f_paragraph_rows K ds R X → ds.length = 4 := by
  rintro ds R X ⟨_, _, _, _, rfl, _⟩
  rfl
theorem len_paragraph_rows {K : PySem.W.Frag} : ∀ vs H Q E, sp_paragraph_rows K vs H Q E → vs.length = 4 := fun _ _ _ _ h => spOf_len (pf_len len_f_paragraph_rows) h
theorem pure_paragraph_rows {K : PySem.W.Frag} {vs : List V} {H : Hp} {Q : VK} {E : XK} (h : sp_paragraph_rows K vs H Q E) : t_paragraph_rows K E { nx := fun _ H' => Q .non H', rt := Q } (L2.start ["text", "start", "last", "width", "found", "end"] vs) H := by
  refine bodyP (ts := t_paragraph_rows K) 4 2 rfl len_f_paragraph_rows (fun ds R X ⟨t, s, l, w, e, F, ht, h1, h2, hw, hk⟩ => ?_) h
  subst e
  show T K _ (t_paragraph_rows K E) [some (.d (.str t)), some (.d (.int s)), some (.d (.int l)), some (.d (.int w)), none, none] _ _ _
  unfold t_paragraph_rows
  have sl := seg_len h1 h2
  refine t_seq (t_newL (wd_nil ⟨by simp, fun q => ?_⟩))
  show T K _ _ [some (.d (.str t)), some (.d (.int s)), some (.d (.int l)), some (.d (.int w)), some (.o q (olst K [])), none] _ _ _
  walk_at "xs"
  refine w_fn ?_
  walk_at "xs"
  refine ⟨t, s, l, w, rfl, ht, h1, h2, ?_⟩
  walk_at "xs"
  refine t_while (fun m δ => ∃ (i : Nat) (acc : List R3), m = l - (s + i) ∧ s + i ≤ l ∧ prows w s (seg t s l) = acc ++ prows w (s + i) (seg t (s + i) l) ∧ acc.length ≤ i ∧ δ = [some (.d (.str t)), some (.d (.int ((s + i : Nat) : Int))), some (.d (.int l)), some (.d (.int w)), some (.o q (olst K (acc.map dR))), some (.d (.int ((s + i + rowN w (seg t (s + i) l) : Nat) : Int)))]) (l - s) ⟨0, [], rfl, by omega, rfl, by simp, rfl⟩ ?_
  rintro m δ ⟨i, acc, rfl, hil, hacc, hal, rfl⟩
  have sl2 := seg_len hil h2
  have rl := row_len w (seg t (s + i) l)
  generalize hn : rowN w (seg t (s + i) l) = n at rl ⊢
  walk_at "xs"
  refine ⟨fun hb => ?_, fun hb => ?_⟩
  · have hb := of_decide_eq_true hb
    have hlt : rowN w (seg t (s + i) l) < (seg t (s + i) l).length := by omega
    have hne : seg t (s + i) l ≠ [] := fun z => by rw [z] at hlt; exact absurd hlt (Nat.not_lt_zero _)
    have hpos := row_pos (w := w) hw hne
    rw [prows_more hw hlt, seg_drop, hn] at hacc
    walk_at "xs"
    refine w_append ?_
    walk_at "xs"
    refine ⟨q, 4, rfl, ⟨_, rfl⟩, ?_⟩
    refine w_row F ?_
    walk_at "xs"
    refine ⟨_, _, _, rfl, _, _, rfl, rfl, by rw [List.length_map]; omega, ?_⟩
    walk_at "xs"
    refine w_fn ?_
    walk_at "xs"
    refine ⟨t, s + i + n, l, w, rfl, ht, by omega, h2, ?_⟩
    walk_at "xs"
    refine ⟨l - (s + (i + n)), by omega, i + n, acc ++ [(s + i, s + i + n, true)], rfl, by omega, ?_, by simp; omega, ?_⟩
    · rw [hacc, List.append_assoc, Nat.add_assoc]
      rfl
    · rw [List.map_append, Nat.add_assoc]
      rfl
  · have hb := of_decide_eq_false hb
    have hge : rowN w (seg t (s + i) l) = (seg t (s + i) l).length := by omega
    rw [prows_last hw hge, sl2] at hacc
    walk_at "xs"
    refine w_append ?_
    walk_at "xs"
    refine ⟨q, 4, rfl, ⟨_, rfl⟩, ?_⟩
    refine w_row F ?_
    walk_at "xs"
    refine ⟨_, _, _, rfl, _, _, rfl, rfl, by rw [List.length_map]; omega, ?_⟩
    refine t_freeze (i := 4) rfl ?_
    walk_at "xs"
    rw [hacc, List.map_append] at hk
    have e : s + i + (l - (s + i)) = l := by omega
    rw [e] at hk
    exact hk
def dP (x : Nat × Nat) : Da := .tup [.int x.1, .int x.2]
def f_paragraphs (K : PySem.W.Frag) : FP := fun ds R _ => ∃ t : List Nat, ds = [.str t] ∧ t.length ≤ 2000 ∧ R (.lst ((pars 0 (splitAt1 10 t)).map dP))
abbrev sp_paragraphs (K : PySem.W.Frag) : Sp := SpOf K (PF (f_paragraphs K))
def t_paragraphs (K : PySem.W.Frag) (E : XK) : TS := (tSeq (tAsgN (tLst tNil) (gName 1))
  (tSeq (tAsg (tC (.int 0)) (gName 2))
  (tSeq (tFor (iList K (tBM K "str" rSplit (tVar 0) (tCons (tK [10] "\n") tNil))) (gName 3) (tSeq (tDrop (tBM K "list" rAppend (tVar 1) (tCons (tTup (tCons (tVar 2) (tCons (tOp rPlus (tVar 2) (tCB (rLen K) (tCons (tVar 3) tNil))) tNil))) tNil)))
  (tAsg (tOp rPlus (tOp rPlus (tVar 2) (tCB (rLen K) (tCons (tVar 3) tNil))) (tC (.int 1))) (gName 2))))
  (tRet (tVar 1)))))
theorem len_f_paragraphs {K : PySem.W.Frag} : ∀ ds R X, f_paragraphs K ds R X → ds.length = 1 := by
  rintro ds R X ⟨_, rfl, _⟩
  rfl
theorem len_paragraphs {K : PySem.W.Frag} : ∀ vs H Q E, sp_paragraphs K vs H Q E → vs.length = 1 := fun _ _ _ _ h => spOf_len (pf_len len_f_paragraphs) h
theorem pars_take {ps : List (List Nat)} {i : Nat} {p : List Nat} (h : ps[i]? = some p) : pars 0 (ps.take (i + 1)) = pars 0 (ps.take i) ++ [(((ps.take i).map List.length).sum + i, ((ps.take i).map List.length).sum + i + p.length)] := by
  rw [List.take_add_one, h, pars_app]
  have : (ps.take i).length = i := by
    rw [List.length_take]
    have := (List.getElem?_eq_some_iff.mp h).1
    omega
  rw [this]
  simp [pars]
theorem sum_take {ps : List (List Nat)} {i : Nat} {p : List Nat} (h : ps[i]? = some p) : ((ps.take (i + 1)).map List.length).sum = ((ps.take i).map List.length).sum + p.length := by
  rw [List.take_add_one, h]
  simp
theorem strs_get {ps : List (List Nat)} {i : Nat} {d : Da} (h : (ps.map Da.str)[i]? = some d) : ∃ p, ps[i]? = some p ∧ d = .str p := by
  rw [List.getElem?_map] at h
  cases e : ps[i]? with
  | none => rw [e] at h; exact nomatch h
  | some p => rw [e] at h; cases h; exact ⟨p, rfl, rfl⟩
theorem len_le_sum {ps : List (List Nat)} {p : List Nat} (h : p ∈ ps) : p.length ≤ (ps.map List.length).sum := by
  induction ps with
  | nil => exact absurd h (by simp)
  | cons a r ih =>
    rw [List.map_cons, List.sum_cons]
    rcases List.mem_cons.mp h with rfl | h
    · omega
    · have := ih h
      omega
theorem pure_paragraphs {K : PySem.W.Frag} {vs : List V} {H : Hp} {Q : VK} {E : XK} (h : sp_paragraphs K vs H Q E) : t_paragraphs K E { nx := fun _ H' => Q .non H', rt := Q } (L2.start ["text", "found", "start", "part"] vs) H := by
  refine bodyP (ts := t_paragraphs K) 1 3 rfl len_f_paragraphs (fun ds R X ⟨t, e, ht, hk⟩ => ?_) h
  subst e
  show T K _ (t_paragraphs K E) [some (.d (.str t)), none, none, none] _ _ _
  unfold t_paragraphs
  refine t_seq (t_newL (wd_nil ⟨by simp, fun q => ?_⟩))
  show T K _ _ [some (.d (.str t)), some (.o q (olst K [])), none, none] _ _ _
  walk_at "xs"
  have sp := split_len 10 t
  refine t_for (wi_list ?_)
  refine w_split (c := 10) (by decide) ?_
  walk_at "xs"
  refine ⟨by omega, ?_⟩
  walk_at "xs"
  refine ⟨trivial, _, rfl, ?_⟩
  generalize hps : splitAt1 10 t = ps at hk sp ⊢
  refine ⟨fun i δ => ∃ x : Option Dx, δ = [some (.d (.str t)), some (.o q (olst K ((pars 0 (ps.take i)).map dP))), some (.d (.int ((((ps.take i).map List.length).sum + i : Nat) : Int))), x], ⟨none, rfl⟩, ?_, ?_⟩
  · rintro i d δ hd ⟨x, rfl⟩
    obtain ⟨p, hp, rfl⟩ := strs_get hd
    have hi : i < ps.length := (List.getElem?_eq_some_iff.mp hp).1
    have hpl := len_le_sum (List.mem_of_getElem? hp)
    refine g_name ?_
    walk_at "xs"
    refine w_append ?_
    walk_at "xs"
    refine ⟨q, 1, rfl, ⟨_, rfl⟩, ?_⟩
    walk_at "xs"
    refine ⟨by show 2 ≤ 16000000; decide, _, _, rfl, rfl, by rw [List.length_map, pars_len, List.length_take]; omega, ?_⟩
    walk_at "xs"
    refine ⟨some (.d (.str p)), ?_⟩
    rw [pars_take hp, sum_take hp, List.map_append]
    have e1 : ((((ps.take i).map List.length).sum + i : Nat) : Int) + (p.length : Int) + 1 = ((((ps.take i).map List.length).sum + p.length + (i + 1) : Nat) : Int) := by omega
    rw [e1]
    rfl
  · rintro δ ⟨x, rfl⟩
    rw [List.length_map, List.take_of_length_le (Nat.le_refl _)]
    refine t_freeze (i := 1) rfl ?_
    walk_at "xs"
    exact hk
def f_rows_of (K : PySem.W.Frag) : FP := fun ds R _ => ∃ (t : List Nat) (w : Nat), ds = [.str t, .int w] ∧ RwF K ∧ t.length ≤ 2000 ∧ 2 ≤ w ∧ R (.lst ((rowsW w t).map dR))
abbrev sp_rows_of (K : PySem.W.Frag) : Sp := SpOf K (PF (f_rows_of K))
def t_rows_of (K : PySem.W.Frag) (E : XK) : TS := (tSeq (tAsgN (tLst tNil) (gName 2))
  (tSeq (tFor (iList K (tCall (sp_paragraphs K) [] L2.E0 (tCons (tVar 0) tNil))) (gTup K 2 (gCons (gName 3) (gCons (gName 4) gNil))) (tDrop (tBM K "list" rExtend (tVar 2) (tCons (tCall (sp_paragraph_rows K) [] L2.E0 (tCons (tVar 0) (tCons (tVar 3) (tCons (tVar 4) (tCons (tVar 1) tNil))))) tNil))))
  (tRet (tVar 2))))
theorem len_f_rows_of {K : PySem.W.Frag} : ∀ ds R X, f_rows_of K ds R X → ds.length = 2 := by
  rintro ds R X ⟨_, _, rfl, _⟩
  rfl
theorem len_rows_of {K : PySem.W.Frag} : ∀ vs H Q E, sp_rows_of K vs H Q E → vs.length = 2 := fun _ _ _ _ h => spOf_len (pf_len len_f_rows_of) h
theorem seg_part : ∀ (ps : List (List Nat)) (pre : List Nat) (i : Nat) (p : List Nat), ps[i]? = some p → seg (pre ++ glue ps) (pre.length + ((ps.take i).map List.length).sum + i) (pre.length + ((ps.take i).map List.length).sum + i + p.length) = p
  | [], pre, i, p, h => by simp at h
  | [a], pre, 0, p, h => by
    simp at h
    subst h
    simp [seg, glue]
  | [a], pre, i + 1, p, h => by simp at h
  | a :: b :: r, pre, 0, p, h => by
    simp at h
    subst h
    simp [seg, glue]
  | a :: b :: r, pre, i + 1, p, h => by
    have := seg_part (b :: r) (pre ++ a ++ [10]) i p (by simpa using h)
    have e : pre ++ glue (a :: b :: r) = pre ++ a ++ [10] ++ glue (b :: r) := by simp [glue]
    rw [e]
    have e2 : (pre ++ a ++ [10]).length + (((b :: r).take i).map List.length).sum + i = pre.length + (((a :: b :: r).take (i + 1)).map List.length).sum + (i + 1) := by
      simp
      omega
    rw [e2] at this
    exact this
theorem pars_get : ∀ (ps : List (List Nat)) (s i : Nat) (x : Nat × Nat), (pars s ps)[i]? = some x → ∃ p, ps[i]? = some p ∧ x = (s + ((ps.take i).map List.length).sum + i, s + ((ps.take i).map List.length).sum + i + p.length)
  | [], s, i, x, h => by simp [pars] at h
  | p :: r, s, 0, x, h => by
    simp [pars] at h
    exact ⟨p, rfl, by simp [← h]⟩
  | p :: r, s, i + 1, x, h => by
    have h : (pars (s + p.length + 1) r)[i]? = some x := by simpa [pars] using h
    obtain ⟨q, h1, h2⟩ := pars_get r _ i x h
    refine ⟨q, by simpa using h1, ?_⟩
    rw [h2]
    simp
    omega
theorem rowsP_take {w : Nat} {ps : List (List Nat)} {i : Nat} {p : List Nat} (h : ps[i]? = some p) : rowsP w 0 (ps.take (i + 1)) = rowsP w 0 (ps.take i) ++ prows w (((ps.take i).map List.length).sum + i) p := by
  rw [List.take_add_one, h, rowsP_app]
  have : (ps.take i).length = i := by
    rw [List.length_take]
    have := (List.getElem?_eq_some_iff.mp h).1
    omega
  rw [this]
  simp [rowsP]
theorem take_sum (ps : List (List Nat)) (i : Nat) : ((ps.take i).map List.length).sum ≤ (ps.map List.length).sum := by
  have := congrArg (fun l : List (List Nat) => (l.map List.length).sum) (List.take_append_drop i ps)
  simp only [List.map_append, List.sum_append] at this
  omega
theorem pure_rows_of {K : PySem.W.Frag} {vs : List V} {H : Hp} {Q : VK} {E : XK} (h : sp_rows_of K vs H Q E) : t_rows_of K E { nx := fun _ H' => Q .non H', rt := Q } (L2.start ["text", "width", "found", "start", "last"] vs) H := by
  refine bodyP (ts := t_rows_of K) 2 3 rfl len_f_rows_of (fun ds R X ⟨t, w, e, F, ht, hw, hk⟩ => ?_) h
  subst e
  show T K _ (t_rows_of K E) [some (.d (.str t)), some (.d (.int w)), none, none, none] _ _ _
  unfold t_rows_of
  refine t_seq (t_newL (wd_nil ⟨by simp, fun q => ?_⟩))
  show T K _ _ [some (.d (.str t)), some (.d (.int w)), some (.o q (olst K [])), none, none] _ _ _
  walk_at "xs"
  have sp := split_len 10 t
  have gs := glue_split t
  refine t_for (wi_list ?_)
  refine w_fn ?_
  walk_at "xs"
  refine ⟨t, rfl, ht, _, rfl, ?_⟩
  unfold rowsW at hk
  generalize hps : splitAt1 10 t = ps at hk sp gs ⊢
  refine ⟨fun i δ => ∃ x y : Option Dx, δ = [some (.d (.str t)), some (.d (.int w)), some (.o q (olst K ((rowsP w 0 (ps.take i)).map dR))), x, y], ⟨none, none, rfl⟩, ?_, ?_⟩
  · rintro i d δ hd ⟨x, y, rfl⟩
    rw [List.getElem?_map] at hd
    cases e : (pars 0 ps)[i]? with
    | none => rw [e] at hd; exact nomatch hd
    | some z =>
      rw [e] at hd
      cases hd
      obtain ⟨p, hp, rfl⟩ := pars_get ps 0 i z e
      have hi : i < ps.length := (List.getElem?_eq_some_iff.mp hp).1
      have hsum := sum_take hp
      have hts := take_sum ps (i + 1)
      have hseg := seg_part ps [] i p hp
      have hrl := rowsP_len hw 0 (ps.take i)
      rw [List.length_take] at hrl
      have hpl := prows_len hw (0 + ((ps.take i).map List.length).sum + i) p
      rw [List.nil_append, gs, List.length_nil] at hseg
      refine g_tup rfl (gs_cons (g_name (gs_cons (g_name (gs_nil ?_)))))
      walk_at "xs"
      refine w_extend ?_
      walk_at "xs"
      refine ⟨q, 2, rfl, ⟨_, rfl⟩, ?_⟩
      refine w_fn ?_
      walk_at "xs"
      refine ⟨t, _, _, w, rfl, F, ht, by omega, by omega, hw, ?_⟩
      rw [hseg]
      refine ⟨_, _, rfl, rfl, by rw [List.length_map, List.length_map]; omega, ?_⟩
      refine ⟨some (.d (.int ((0 + ((ps.take i).map List.length).sum + i : Nat) : Int))), some (.d (.int ((0 + ((ps.take i).map List.length).sum + i + p.length : Nat) : Int))), ?_⟩
      rw [rowsP_take hp, List.map_append, Nat.zero_add]
  · rintro δ ⟨x, y, rfl⟩
    rw [List.length_map, pars_len, List.take_of_length_le (Nat.le_refl _)]
    refine t_freeze (i := 2) rfl ?_
    walk_at "xs"
    exact hk
def dT (r : R3) : Da := .tup [.int r.1, .int r.2.1, .bl r.2.2]
def f_wrapped (K : PySem.W.Frag) : FP := fun ds R X => ∃ (t : List Nat) (w : Int), ds = [.str t, .int w] ∧ RwF K ∧ t.length ≤ 16000000 ∧ (isText t = false → X "BadText") ∧ (isText t = true → ¬ (2 ≤ w ∧ w ≤ 200) → X "BadSize") ∧
  (isText t = true → 2 ≤ w ∧ w ≤ 200 → R (.lst ((rowsW w.toNat t).map dT)))
abbrev sp_wrapped (K : PySem.W.Frag) : Sp := SpOf K (PF (f_wrapped K))
def t_wrapped (K : PySem.W.Frag) (E : XK) : TS := (tSeq (tDrop (tCall (sp_look_text K) [] E (tCons (tVar 0) tNil)))
  (tSeq (tDrop (tCall (sp_look_width K) [] E (tCons (tVar 1) tNil)))
  (tRet (tLc (iList K (tCall (sp_rows_of K) [] L2.E0 (tCons (tVar 0) (tCons (tVar 1) tNil)))) (gName 2) tYes (tMeth (He.ga K "Row") "told" (sp_Row_told K) [] L2.E0 (tVar 2) tNil) [2]))))
theorem len_f_wrapped {K : PySem.W.Frag} : ∀ ds R X, f_wrapped K ds R X → ds.length = 2 := by
  rintro ds R X ⟨_, _, rfl, _⟩
  rfl
theorem len_wrapped {K : PySem.W.Frag} : ∀ vs H Q E, sp_wrapped K vs H Q E → vs.length = 2 := fun _ _ _ _ h => spOf_len (pf_len len_f_wrapped) h
theorem fm_map {α : Type} {f : α → Da} {g : α → Da} {h : Da → Option Da} (e : ∀ a, h (f a) = some (g a)) (l : List α) : (l.map f).filterMap h = l.map g := by
  induction l with
  | nil => rfl
  | cons a r ih => rw [List.map_cons, List.filterMap_cons, e, ih, List.map_cons]
theorem map_get {α : Type} {f : α → Da} {l : List α} {i : Nat} {d : Da} (h : (l.map f)[i]? = some d) : ∃ a, l[i]? = some a ∧ d = f a := by
  rw [List.getElem?_map] at h
  cases e : l[i]? with
  | none => rw [e] at h; exact nomatch h
  | some a => rw [e] at h; cases h; exact ⟨a, rfl, rfl⟩
def tellR : Da → Option Da
  | .row s e b => some (.tup [.int s, .int e, .bl b])
  | _ => none
theorem pure_wrapped {K : PySem.W.Frag} {vs : List V} {H : Hp} {Q : VK} {E : XK} (h : sp_wrapped K vs H Q E) : t_wrapped K E { nx := fun _ H' => Q .non H', rt := Q } (L2.start ["text", "width", "row"] vs) H := by
  refine bodyP (ts := t_wrapped K) 2 1 rfl len_f_wrapped (fun ds R X ⟨t, w, e, F, ht, h1, h2, h3⟩ => ?_) h
  subst e
  show T K _ (t_wrapped K E) [some (.d (.str t)), some (.d (.int w)), none] _ _ _
  unfold t_wrapped
  walk_at "xs"
  refine w_fnX (fun _ _ _ _ h => h) ?_
  walk_at "xs"
  refine ⟨t, rfl, ht, fun it => ?_, h1⟩
  walk_at "xs"
  refine w_fnX (fun _ _ _ _ h => h) ?_
  walk_at "xs"
  refine ⟨w, rfl, fun iw => ?_, h2 it⟩
  obtain ⟨v, rfl⟩ : ∃ v : Nat, w = (v : Int) := ⟨w.toNat, by omega⟩
  have h3 := h3 it iw
  rw [Int.toNat_natCast] at h3
  have tl : t.length ≤ 2000 := by
    unfold isText at it
    simp at it
    exact it.1
  have rl := rowsW_len (w := v) (by omega) t
  walk_at "xs"
  refine w_lcP tellR (wi_list ?_)
  refine w_fn ?_
  walk_at "xs"
  refine ⟨t, v, rfl, F, tl, by omega, _, rfl, noneAt1 rfl, by rw [List.length_map]; omega, fun i d hd => ?_, ?_⟩
  · obtain ⟨r, hr, rfl⟩ := map_get hd
    refine gv_name (by simp) ?_
    walk_at "xs"
    refine ⟨fun _ => ?_, fun z => nomatch z⟩
    refine w_methRow (by decide) ?_
    walk_at "xs"
    refine ⟨_, _, _, rfl, _, _, _, rfl, F, _, rfl, rfl, rfl⟩
  rw [fm_map (f := dR) (g := dT) (h := tellR) (fun a => rfl)]
  exact h3
def tx (t : List Nat) (r : R3) : List Nat := (t.drop r.1).take (r.2.1 - r.1)
def f_shown (K : PySem.W.Frag) : FP := fun ds R X => ∃ (t : List Nat) (w : Int), ds = [.str t, .int w] ∧ RwF K ∧ t.length ≤ 16000000 ∧ (isText t = false → X "BadText") ∧ (isText t = true → ¬ (2 ≤ w ∧ w ≤ 200) → X "BadSize") ∧
  (isText t = true → 2 ≤ w ∧ w ≤ 200 → R (.lst ((rowsW w.toNat t).map fun r => .str (tx t r))))
abbrev sp_shown (K : PySem.W.Frag) : Sp := SpOf K (PF (f_shown K))
def t_shown (K : PySem.W.Frag) (E : XK) : TS := (tSeq (tDrop (tCall (sp_look_text K) [] E (tCons (tVar 0) tNil)))
  (tSeq (tDrop (tCall (sp_look_width K) [] E (tCons (tVar 1) tNil)))
  (tRet (tLc (iList K (tCall (sp_rows_of K) [] L2.E0 (tCons (tVar 0) (tCons (tVar 1) tNil)))) (gName 2) tYes (tSl rSlS (tVar 0) (tPart (tFld K (tVar 2) "start")) (tPart (tFld K (tVar 2) "end"))) [2]))))
theorem len_f_shown {K : PySem.W.Frag} : ∀ ds R X, f_shown K ds R X → ds.length = 2 := by
  rintro ds R X ⟨_, _, rfl, _⟩
  rfl
theorem len_shown {K : PySem.W.Frag} : ∀ vs H Q E, sp_shown K vs H Q E → vs.length = 2 := fun _ _ _ _ h => spOf_len (pf_len len_f_shown) h
def showR (t : List Nat) : Da → Option Da
  | .row s e _ => some (.str ((t.drop s.toNat).take (e.toNat - s.toNat)))
  | _ => none
theorem pure_shown {K : PySem.W.Frag} {vs : List V} {H : Hp} {Q : VK} {E : XK} (h : sp_shown K vs H Q E) : t_shown K E { nx := fun _ H' => Q .non H', rt := Q } (L2.start ["text", "width", "row"] vs) H := by
  refine bodyP (ts := t_shown K) 2 1 rfl len_f_shown (fun ds R X ⟨t, w, e, F, ht, h1, h2, h3⟩ => ?_) h
  subst e
  show T K _ (t_shown K E) [some (.d (.str t)), some (.d (.int w)), none] _ _ _
  unfold t_shown
  walk_at "xs"
  refine w_fnX (fun _ _ _ _ h => h) ?_
  walk_at "xs"
  refine ⟨t, rfl, ht, fun it => ?_, h1⟩
  walk_at "xs"
  refine w_fnX (fun _ _ _ _ h => h) ?_
  walk_at "xs"
  refine ⟨w, rfl, fun iw => ?_, h2 it⟩
  obtain ⟨v, rfl⟩ : ∃ v : Nat, w = (v : Int) := ⟨w.toNat, by omega⟩
  have h3 := h3 it iw
  rw [Int.toNat_natCast] at h3
  have tl : t.length ≤ 2000 := by
    unfold isText at it
    simp at it
    exact it.1
  have rl := rowsW_len (w := v) (by omega) t
  walk_at "xs"
  refine w_lcP (showR t) (wi_list ?_)
  refine w_fn ?_
  walk_at "xs"
  refine ⟨t, v, rfl, F, tl, by omega, _, rfl, noneAt1 rfl, by rw [List.length_map]; omega, fun i d hd => ?_, ?_⟩
  · obtain ⟨r, hr, rfl⟩ := map_get hd
    refine gv_name (by simp) ?_
    walk_at "xs"
    refine ⟨fun _ => ?_, fun z => nomatch z⟩
    walk_at "xs"
    refine ⟨by omega, ?_⟩
    walk_at "xs"
    refine w_start F ?_
    walk_at "xs"
    refine ⟨_, _, _, rfl, _, rfl, ?_⟩
    walk_at "xs"
    refine w_end F ?_
    walk_at "xs"
    refine ⟨_, _, _, rfl, _, rfl, ?_⟩
    refine ⟨_, rfl, ?_, rfl⟩
    rw [cut_nat]
    rfl
  rw [fm_map (f := dR) (g := fun r => .str (tx t r)) (h := showR t) (fun a => rfl)]
  exact h3
end Cr

namespace Cr
open PySem L2
local macro_rules | `(tactic| walk_at "x") => `(tactic| first | with_reducible refine t_seq ?_ | with_reducible refine t_ret ?_ | with_reducible refine t_set ?_ | with_reducible refine t_drop ?_ | with_reducible refine t_if ?_ | with_reducible refine t_next ?_ | with_reducible refine t_raise ?_ | with_reducible refine t_asg ?_ | with_reducible refine t_retN ?_ | with_reducible refine w_op ?_ | ((with_reducible refine' w_var ?h ?_); (case h => rfl)) | ((with_reducible refine' w_own ?h ?_); (case h => rfl)) | with_reducible refine w_int ?_ | ((with_reducible refine' w_k ?h ?_); (case h => decide +kernel)) | with_reducible refine w_bl ?_ | with_reducible refine w_non ?_ | with_reducible refine w_if ?_ | with_reducible refine w_andV ?_ | with_reducible refine w_orV ?_ | with_reducible refine w_notV ?_ | with_reducible refine w_tup ?_ | with_reducible refine w_lst ?_ | with_reducible refine w_cb ?_ | with_reducible refine w_chain ?_ | with_reducible refine w_slS ?_ | with_reducible refine w_slL ?_ | with_reducible refine w_find1 ?_ | with_reducible refine w_find2 ?_ | with_reducible refine w_rfind1 ?_ | with_reducible refine w_rfind3 ?_ | with_reducible refine w_neg ?_ | with_reducible refine w_ref ?_ | with_reducible refine w_ty ?_ | with_reducible refine wt_test ?_ | with_reducible refine wt_B ?_ | with_reducible refine wt_and ?_ | with_reducible refine wt_or ?_ | with_reducible refine wt_not ?_ | with_reducible refine wt_yes ?_ | with_reducible refine wd_nil ?_ | with_reducible refine wd_cons ?_ | with_reducible refine wa_nil ?_ | with_reducible refine wa_cons ?_ | with_reducible refine wo_none ?_ | with_reducible refine wo_some ?_ | with_reducible refine rd_I0i ?_ | with_reducible refine rd_I0b ?_ | with_reducible refine rd_eqI ?_ | with_reducible refine rd_neI ?_ | with_reducible refine rd_eqS ?_ | with_reducible refine rd_neS ?_ | with_reducible refine rd_isN ?_ | with_reducible refine rd_notN ?_ | with_reducible refine rd_inSign ?_ | with_reducible refine cd_lenL ?_ | ((with_reducible refine' cd_lenS ?h ?_); (case h => first | assumption | omega)) | with_reducible refine cd_lenT ?_ | with_reducible refine cd_lenR ?_ | with_reducible refine cd_abs ?_ | with_reducible refine cd_max2 ?_ | with_reducible refine cd_min2 ?_ | with_reducible refine cd_intB ?_ | with_reducible refine cd_ord ?_ | with_reducible refine g_name ?_ | with_reducible refine ⟨_, rfl, ?_⟩ | with_reducible refine rd_leS ?_)
local macro_rules | `(tactic| walk_at "xs") => `(tactic| repeat (first | with_reducible refine t_seq ?_ | with_reducible refine t_ret ?_ | with_reducible refine t_set ?_ | with_reducible refine t_drop ?_ | with_reducible refine t_if ?_ | with_reducible refine t_next ?_ | with_reducible refine t_raise ?_ | with_reducible refine t_asg ?_ | with_reducible refine t_retN ?_ | with_reducible refine w_op ?_ | ((with_reducible refine' w_var ?h ?_); (case h => rfl)) | ((with_reducible refine' w_own ?h ?_); (case h => rfl)) | with_reducible refine w_int ?_ | ((with_reducible refine' w_k ?h ?_); (case h => decide +kernel)) | with_reducible refine w_bl ?_ | with_reducible refine w_non ?_ | with_reducible refine w_if ?_ | with_reducible refine w_andV ?_ | with_reducible refine w_orV ?_ | with_reducible refine w_notV ?_ | with_reducible refine w_tup ?_ | with_reducible refine w_lst ?_ | with_reducible refine w_cb ?_ | with_reducible refine w_chain ?_ | with_reducible refine w_slS ?_ | with_reducible refine w_slL ?_ | with_reducible refine w_find1 ?_ | with_reducible refine w_find2 ?_ | with_reducible refine w_rfind1 ?_ | with_reducible refine w_rfind3 ?_ | with_reducible refine w_neg ?_ | with_reducible refine w_ref ?_ | with_reducible refine w_ty ?_ | with_reducible refine wt_test ?_ | with_reducible refine wt_B ?_ | with_reducible refine wt_and ?_ | with_reducible refine wt_or ?_ | with_reducible refine wt_not ?_ | with_reducible refine wt_yes ?_ | with_reducible refine wd_nil ?_ | with_reducible refine wd_cons ?_ | with_reducible refine wa_nil ?_ | with_reducible refine wa_cons ?_ | with_reducible refine wo_none ?_ | with_reducible refine wo_some ?_ | with_reducible refine rd_I0i ?_ | with_reducible refine rd_I0b ?_ | with_reducible refine rd_eqI ?_ | with_reducible refine rd_neI ?_ | with_reducible refine rd_eqS ?_ | with_reducible refine rd_neS ?_ | with_reducible refine rd_isN ?_ | with_reducible refine rd_notN ?_ | with_reducible refine rd_inSign ?_ | with_reducible refine cd_lenL ?_ | ((with_reducible refine' cd_lenS ?h ?_); (case h => first | assumption | omega)) | with_reducible refine cd_lenT ?_ | with_reducible refine cd_lenR ?_ | with_reducible refine cd_abs ?_ | with_reducible refine cd_max2 ?_ | with_reducible refine cd_min2 ?_ | with_reducible refine cd_intB ?_ | with_reducible refine cd_ord ?_ | with_reducible refine g_name ?_ | with_reducible refine ⟨_, rfl, ?_⟩ | with_reducible refine rd_leS ?_ | simp only [List.set_cons_succ, List.set_cons_zero]))
/-! ### the law's own text -/
def f__law_text (K : PySem.W.Frag) : FS := fun ys R _ => ∃ (ns : List Int) (p : Addr) (n m : Nat), ys = [.d (.scr ns), .o p (twn K n), .d (.int m)] ∧ n < 10000 ∧ m ≤ 100 ∧ ∀ (t : List Nat) (n' : Nat), t.length ≤ 12 * m → wd t ≤ 12 * m → n' ≤ n + 1 + 2 * m → (∀ c ∈ t, okSign c = true) → R (.str t) [none, some (.o p (twn K n')), none]
abbrev sp__law_text (K : PySem.W.Frag) : Sp := SpOf K (f__law_text K)
def t__law_text (K : PySem.W.Frag) (E : XK) : TS := (tSeq (tAsg (tK [] "") (gName 3))
  (tSeq (tFor (iRng1 (tCons (tCall (sp__law_draw K) [] L2.E0 (tCons (tVar 0) (tCons (tVar 1) (tCons (tOp rPlus (tVar 2) (tC (.int 1))) tNil)))) tNil)) (gName 4) (tSeq (tAsg (tLst (tCons (tK [97] "a") (tCons (tK [98, 98] "bb") (tCons (tK [99, 99, 99] "ccc") (tCons (tK [108, 111, 110, 103, 119, 111, 114, 100] "longword") (tCons (tK [65] "A") (tCons (tK [66, 98] "Bb") (tCons (tK [87, 87, 87] "WWW") (tCons (tK [55] "7") (tCons (tK [44] ",") (tCons (tK [45, 120, 45] "-x-") (tCons (tK [101, 57] "e9") tNil)))))))))))) (gName 5))
  (tSeq (tAsg (tOp rAddStr (tVar 3) (tCall (sp__law_pick K) [] L2.E0 (tCons (tVar 0) (tCons (tVar 1) (tCons (tVar 5) tNil))))) (gName 3))
  (tAsg (tOp rAddStr (tVar 3) (tCall (sp__law_pick K) [] L2.E0 (tCons (tVar 0) (tCons (tVar 1) (tCons (tLst (tCons (tK [32] " ") (tCons (tK [32] " ") (tCons (tK [32] " ") (tCons (tK [32, 32] "  ") (tCons (tK [32, 32, 32, 32] "    ") (tCons (tK [10] "\n") (tCons (tK [10, 10] "\n\n") (tCons (tK [] "") (tCons (tK [44, 32] ", ") tNil)))))))))) tNil))))) (gName 3)))))
  (tRet (tVar 3))))
theorem len_f__law_text {K : PySem.W.Frag} : ∀ ds R X, f__law_text K ds R X → ds.length = 3 := by
  rintro ds R X ⟨_, _, _, _, rfl, _⟩
  rfl
theorem len__law_text {K : PySem.W.Frag} : ∀ vs H Q E, sp__law_text K vs H Q E → vs.length = 3 := fun _ _ _ _ h => spOf_len len_f__law_text h
theorem pure__law_text {K : PySem.W.Frag} {vs : List V} {H : Hp} {Q : VK} {E : XK} (h : sp__law_text K vs H Q E) : t__law_text K E { nx := fun _ H' => Q .non H', rt := Q } (L2.start ["script", "town", "most", "found", "k", "some"] vs) H := by
  refine body (ts := t__law_text K) 3 3 rfl len_f__law_text (fun ds R X ⟨ns, p, n, m, e, hn, hm, hk⟩ => ?_) h
  subst e
  show T K _ (t__law_text K E) [some (.d (.scr ns)), some (.o p (twn K n)), some (.d (.int m)), none, none, none] _ _ _
  unfold t__law_text
  walk_at "xs"
  refine t_for (wi_rng1 ?_)
  walk_at "xs"
  refine w_call ?_
  walk_at "xs"
  refine cl_draw (i := 1) rfl (by omega) (by omega) (by omega) fun v v0 v1 => ?_
  walk_at "xs"
  refine ⟨by omega, by omega, ?_⟩
  refine ⟨fun i δ => ∃ (t : List Nat) (x y : Option Dx), t.length ≤ 12 * i ∧ wd t ≤ 12 * i ∧ (∀ c ∈ t, okSign c = true) ∧ δ = [some (.d (.scr ns)), some (.o p (twn K (n + 1 + 2 * i))), some (.d (.int m)), some (.d (.str t)), x, y], ⟨[], none, none, by simp, by simp [wd], by simp, rfl⟩, ?_, ?_⟩
  · rintro i d δ hd ⟨t, x, y, htl, htw, htk, rfl⟩
    have hi : i < v.toNat := by
      have := (List.getElem?_eq_some_iff.mp hd).1
      rw [ran_len] at this
      exact this
    rw [ran_get hi] at hd
    cases hd
    refine g_name ?_
    walk_at "xs"
    refine ⟨by show 11 ≤ 16000000; decide, _, rfl, ?_⟩
    walk_at "xs"
    refine w_call ?_
    walk_at "xs"
    refine cl_pick (i := 1) rfl (by omega) (by show 0 < 11; decide) (by show 11 < 1000; decide) fun d hd => ?_
    obtain ⟨a, rfl, al, aw, aok⟩ : ∃ l, d = .str l ∧ l.length ≤ 8 ∧ wd l ≤ 8 ∧ ∀ c ∈ l, okSign c = true := by
      simp only [List.mem_cons, List.not_mem_nil, or_false] at hd
      rcases hd with rfl | rfl | rfl | rfl | rfl | rfl | rfl | rfl | rfl | rfl | rfl
      all_goals exact ⟨_, rfl, by decide, by decide, by decide⟩
    clear hd
    refine rd_addS (by omega) ⟨_, rfl, ?_⟩
    walk_at "xs"
    refine w_call ?_
    walk_at "xs"
    refine ⟨by show 9 ≤ 16000000; decide, ?_⟩
    walk_at "xs"
    refine cl_pick (n := n + 1 + 2 * i + 1) (i := 1) rfl (by omega) (by show 0 < 9; decide) (by show 9 < 1000; decide) fun d hd => ?_
    obtain ⟨b, rfl, bl, bw, bok⟩ : ∃ l, d = .str l ∧ l.length ≤ 4 ∧ wd l ≤ 4 ∧ ∀ c ∈ l, okSign c = true := by
      simp only [List.mem_cons, List.not_mem_nil, or_false] at hd
      rcases hd with rfl | rfl | rfl | rfl | rfl | rfl | rfl | rfl | rfl
      all_goals exact ⟨_, rfl, by decide, by decide, by decide⟩
    clear hd
    refine rd_addS (by rw [List.length_append]; omega) ⟨_, rfl, ?_⟩
    refine ⟨t ++ a ++ b, _, _, by simp only [List.length_append]; omega, by rw [wid_app, wid_app]; omega, fun c hc => ?_, rfl⟩
    rcases List.mem_append.mp hc with hc | hc
    · rcases List.mem_append.mp hc with hc | hc
      · exact htk c hc
      · exact aok c hc
    · exact bok c hc
  · rintro δ ⟨t, x, y, htl, htw, htk, rfl⟩
    rw [ran_len] at htl htw ⊢
    walk_at "xs"
    exact ⟨hk t _ (by omega) (by omega) (by omega) htk, rfl, trivial⟩
theorem cl_text {K : PySem.W.Frag} {δ : Dl} {P : PX} {X : XX} {ns : List Int} {p : Addr} {n i m : Nat} (hi : δ[i]? = some (some (.o p (twn K n)))) (hn : n < 10000) (hm : m ≤ 100)
    (k : ∀ (t : List Nat) (n' : Nat), t.length ≤ 12 * m → wd t ≤ 12 * m → n' ≤ n + 1 + 2 * m → (∀ c ∈ t, okSign c = true) → P (.d (.str t)) (δ.set i (some (.o p (twn K n'))))) : Cl (f__law_text K) [.d (.scr ns), .a p, .d (.int m)] δ P X :=
  ⟨_, [none, some i, none], .d (.o hi (.d .nil)), uq3, ns, p, n, m, rfl, hn, hm, k⟩
/-! ### the law's own rows -/
def f__law_wide (K : PySem.W.Frag) : FP := fun ds R _ => ∃ l : List Nat, ds = [.str l] ∧ l.length ≤ 16000000 ∧ R (.int (wd l : Nat))
abbrev sp__law_wide (K : PySem.W.Frag) : Sp := SpOf K (PF (f__law_wide K))
def t__law_wide (K : PySem.W.Frag) (E : XK) : TS := (tRet (tCB (rSum K) (tCons (tLc (iStr (tVar 0)) (gName 1) tYes (tOp rPlus (tC (.int 1)) (tCB rInt1 (tCons (tChain rLeStr rLeStr (tK [65] "A") (tVar 1) (tK [90] "Z")) tNil))) [1]) tNil)))
theorem len_f__law_wide {K : PySem.W.Frag} : ∀ ds R X, f__law_wide K ds R X → ds.length = 1 := by
  rintro ds R X ⟨_, rfl, _⟩
  rfl
theorem len__law_wide {K : PySem.W.Frag} : ∀ vs H Q E, sp__law_wide K vs H Q E → vs.length = 1 := fun _ _ _ _ h => spOf_len (pf_len len_f__law_wide) h
def wS : Da → Option Da
  | .str [c] => some (.int (w1 c : Nat))
  | _ => none
theorem lt_one (a b : Nat) : (([a] : List Nat) < [b]) ↔ a < b := by
  rw [List.cons_lt_cons_iff]
  constructor
  · rintro (h | ⟨_, h⟩)
    · exact h
    · exact absurd h (List.lt_irrefl _)
  · exact .inl
theorem w1_lo {c : Nat} (h : (!decide (([c] : List Nat) < [65])) = false) : w1 c = 1 := by
  have h : ([c] : List Nat) < [65] := by simpa using h
  have h := (lt_one _ _).mp h
  unfold w1 gr
  rw [if_neg]
  simp
  omega
theorem w1_hi {c : Nat} (h : (!decide (([c] : List Nat) < [65])) = true) : (1 : Int) + (if (!decide (([90] : List Nat) < [c])) = true then 1 else 0) = ((w1 c : Nat) : Int) := by
  have h : ¬ ([c] : List Nat) < [65] := by simpa using h
  have h : ¬ c < 65 := fun z => h ((lt_one _ _).mpr z)
  have e2 : decide (([90] : List Nat) < [c]) = decide (90 < c) := decide_eq_decide.mpr (lt_one _ _)
  rw [e2]
  unfold w1 gr
  by_cases h2 : 90 < c
  · rw [decide_eq_true h2, if_neg (by decide), if_neg (by simp; omega)]
    rfl
  · rw [decide_eq_false h2, if_pos (by decide), if_pos (by simp; omega)]
    rfl
theorem sum_w1 (l : List Nat) : (l.map fun c => ((w1 c : Nat) : Int)).sum = ((wd l : Nat) : Int) := by
  unfold wd
  induction l with
  | nil => rfl
  | cons a r ih => simp [ih]
theorem pure__law_wide {K : PySem.W.Frag} {vs : List V} {H : Hp} {Q : VK} {E : XK} (h : sp__law_wide K vs H Q E) : t__law_wide K E { nx := fun _ H' => Q .non H', rt := Q } (L2.start ["text", "sign"] vs) H := by
  refine bodyP (ts := t__law_wide K) 1 1 rfl len_f__law_wide (fun ds R X ⟨l, e, hl, hk⟩ => ?_) h
  subst e
  show T K _ (t__law_wide K E) [some (.d (.str l)), none] _ _ _
  unfold t__law_wide
  walk_at "xs"
  refine w_lcP wS (wi_str ?_)
  walk_at "xs"
  refine ⟨noneAt1 rfl, by rw [List.length_map]; omega, fun i d hd => ?_, ?_⟩
  · obtain ⟨c, hc, rfl⟩ := signs_get hd
    refine gv_name (by simp) ?_
    walk_at "xs"
    refine ⟨fun _ => ?_, fun z => nomatch z⟩
    walk_at "xs"
    refine ⟨fun hb => ?_, fun hb => ?_⟩
    · walk_at "xs"
      rw [w1_hi hb]
      exact ⟨rfl, rfl⟩
    · walk_at "xs"
      refine ⟨?_, rfl⟩
      show some (Da.int (w1 c : Nat)) = _
      rw [w1_lo hb]
      rfl
  rw [fm_map (f := fun c => Da.str [c]) (g := fun c => .int (w1 c : Nat)) (h := wS) (fun a => rfl)]
  have e : (l.map fun c => Da.int ((w1 c : Nat) : Int)) = ((l.map fun c => ((w1 c : Nat) : Int)).map Da.int) := by rw [List.map_map]; rfl
  rw [e]
  walk_at "xs"
  refine cd_sum ?_
  rw [sum_w1]
  exact hk
/-! ### blanks at the end -/
def rs (l : List Nat) : List Nat := l.take (l.length - (l.reverse.takeWhile fun c => c == 32).length)
theorem rstrip_S (l : List Nat) : (Txt.rstripChars (S l) (S [32])).cps.toList = rs l := by
  unfold Txt.rstripChars
  rw [PyProof.Rows.stripBy_eq, PySem.StrLaws.strSub_toList]
  have e : (S [32]).cps.contains = fun c => c == 32 := by
    funext c
    simp [S]
    rw [Bool.eq_iff_iff]
    simp
  rw [e]
  simp only [stripLo, stripHi, Bool.false_eq_true, if_false, if_true, S_tl, S_len, List.drop_zero, Nat.sub_zero]
  rfl
theorem tw_all : ∀ (l : List Nat), ∀ c ∈ (l.takeWhile fun c => c == 32), c = 32
  | [], c, h => by simp at h
  | a :: r, c, h => by
    rw [List.takeWhile_cons] at h
    split at h
    · rename_i ha
      rcases List.mem_cons.mp h with rfl | h
      · simpa using ha
      · exact tw_all r c h
    · simp at h
theorem rs_all (l : List Nat) : ∀ c ∈ l.drop (l.length - (l.reverse.takeWhile fun c => c == 32).length), c = 32 := fun c hc => by
  have h : l.drop (l.length - (l.reverse.takeWhile fun c => c == 32).length) = (l.reverse.takeWhile fun c => c == 32).reverse := by
    have h1 : l.reverse = (l.reverse.takeWhile fun c => c == 32) ++ (l.reverse.dropWhile fun c => c == 32) := (List.takeWhile_append_dropWhile).symm
    have h2 : l = (l.reverse.dropWhile fun c => c == 32).reverse ++ (l.reverse.takeWhile fun c => c == 32).reverse := by
      have := congrArg List.reverse h1
      rw [List.reverse_reverse, List.reverse_append] at this
      exact this
    have h3 : l.length = (l.reverse.dropWhile fun c => c == 32).length + (l.reverse.takeWhile fun c => c == 32).length := by
      have := congrArg List.length h2
      rw [List.length_append, List.length_reverse, List.length_reverse] at this
      exact this
    generalize (l.reverse.takeWhile fun c => c == 32) = a at *
    generalize (l.reverse.dropWhile fun c => c == 32) = b at *
    rw [h3, Nat.add_sub_cancel]
    rw [h2]
    have : b.reverse.length = b.length := List.length_reverse
    rw [← this, List.drop_left]
  rw [h] at hc
  exact tw_all _ c (List.mem_reverse.mp hc)
theorem tw_len {q : Nat → Bool} : ∀ (l : List Nat) (k : Nat), k ≤ l.length → (∀ c ∈ l.take k, q c = true) → k ≤ (l.takeWhile q).length
  | _, 0, _, _ => Nat.zero_le _
  | [], k + 1, h, _ => by simp at h
  | a :: r, k + 1, h, hq => by
    rw [List.take_succ_cons] at hq
    rw [List.takeWhile_cons, if_pos (hq a List.mem_cons_self), List.length_cons]
    exact Nat.succ_le_succ (tw_len r k (by simpa using h) fun c hc => hq c (List.mem_cons_of_mem _ hc))
theorem rs_min {l : List Nat} {k : Nat} (h : ∀ c ∈ l.drop k, c = 32) : l.length - (l.reverse.takeWhile fun c => c == 32).length ≤ k := by
  by_cases hk : k ≤ l.length
  · have := tw_len (q := fun c => c == 32) l.reverse (l.length - k) (by simp) fun c hc => by
      have e : l.reverse.take (l.length - k) = (l.drop k).reverse := by
        rw [List.take_reverse]
        congr 2
        omega
      rw [e] at hc
      simp [h c (List.mem_reverse.mp hc)]
    omega
  · omega
theorem bl_full : ∀ {l : List Nat}, (∀ c ∈ l, c = 32) → blN l = l.length
  | [], _ => rfl
  | a :: r, h => by
    show (if a = 32 then blN r + 1 else 0) = _
    rw [if_pos (h a List.mem_cons_self), bl_full fun c hc => h c (List.mem_cons_of_mem _ hc), List.length_cons]
theorem row_full {w : Nat} {p : List Nat} (h : wd (rs p) ≤ w ∨ wd p ≤ w) : rowN w p = p.length := by
  have : endN w p = p.length := by
    unfold endN
    have hl := fit_len w p
    have hb : ∀ c ∈ p.drop (fitN w p), c = 32 := by
      rcases h with h | h
      · have hj := fit_max w p _ (Nat.sub_le _ _) h
        intro c hc
        refine rs_all p c ?_
        have : p.drop (fitN w p) = (p.drop (p.length - (p.reverse.takeWhile fun c => c == 32).length)).drop (fitN w p - (p.length - (p.reverse.takeWhile fun c => c == 32).length)) := by
          rw [List.drop_drop]
          congr 1
          omega
        rw [this] at hc
        exact List.mem_of_mem_drop hc
      · have := fit_max w p p.length (Nat.le_refl _) (by rw [List.take_length]; exact h)
        rw [List.drop_of_length_le this]
        simp
    rw [bl_full hb, List.length_drop]
    omega
  unfold rowN
  rw [if_pos this]
/-- no row but by its blanks is too wide -/
theorem row_narrow {w n : Nat} {p : List Nat} (hn : n ≤ endN w p) : wd (rs (p.take n)) ≤ w := by
  have hb : ∀ c ∈ (p.take n).drop (fitN w p), c = 32 := fun c hc => by
    rw [List.drop_take] at hc
    refine bl_all (p.drop (fitN w p)) c ?_
    have : n - fitN w p ≤ blN (p.drop (fitN w p)) := by unfold endN at hn; omega
    have e : (p.drop (fitN w p)).take (n - fitN w p) = ((p.drop (fitN w p)).take (blN (p.drop (fitN w p)))).take (n - fitN w p) := by rw [List.take_take, Nat.min_eq_left this]
    rw [e] at hc
    exact List.mem_of_mem_take hc
  have hm := rs_min hb
  unfold rs
  rw [List.take_take]
  exact Nat.le_trans (wd_mono p (Nat.le_trans (Nat.min_le_left _ _) hm)) (fit_wd w p)
end Cr

namespace Cr
open PySem L2
theorem ran_map (n : Nat) : ran 0 n = (List.range n).map fun (k : Nat) => Da.int (k : Int) := by
  unfold ran
  refine List.map_congr_left fun k _ => ?_
  rw [Int.zero_add]
def kI (q : Nat → Bool) : Da → Option Da
  | .int i => if q i.toNat then some (.int i) else none
  | _ => none
theorem kI_t {q : Nat → Bool} {i : Nat} (h : q i = true) : kI q (.int (i : Int)) = some (.int (i : Int)) := by
  show (if q (i : Int).toNat = true then _ else _) = _
  rw [Int.toNat_natCast, if_pos h]
theorem kI_f {q : Nat → Bool} {i : Nat} (h : q i = false) : kI q (.int (i : Int)) = none := by
  show (if q (i : Int).toNat = true then _ else _) = _
  rw [Int.toNat_natCast, if_neg (by rw [h]; decide)]
theorem filter_ints (l : List Nat) (q : Nat → Bool) : (l.map fun (k : Nat) => Da.int (k : Int)).filterMap (kI q) = (l.filter q).map fun (k : Nat) => Da.int (k : Int) := by
  induction l with
  | nil => rfl
  | cons a r ih =>
    rw [List.map_cons, List.filterMap_cons, List.filter_cons]
    cases h : q a
    · rw [kI_f h, ih]
      rfl
    · rw [kI_t h, ih]
      rfl
theorem lv_ints (l : List Nat) : lv 1 (.lst (l.map fun (k : Nat) => Da.int (k : Int))) := by
  intro x hx
  obtain ⟨k, _, rfl⟩ := List.mem_map.mp hx
  trivial
theorem eqd_nil (ds : List Da) : eqd (.lst ds) (.lst []) = ds.isEmpty := by
  cases ds with
  | nil => exact eqd_refl (n := 1) (lv_ints [])
  | cons a r => rfl
end Cr

namespace Cr
open PySem L2
local macro_rules | `(tactic| walk_at "x") => `(tactic| first | with_reducible refine t_seq ?_ | with_reducible refine t_ret ?_ | with_reducible refine t_set ?_ | with_reducible refine t_drop ?_ | with_reducible refine t_if ?_ | with_reducible refine t_next ?_ | with_reducible refine t_raise ?_ | with_reducible refine t_asg ?_ | with_reducible refine t_retN ?_ | with_reducible refine w_op ?_ | ((with_reducible refine' w_var ?h ?_); (case h => rfl)) | ((with_reducible refine' w_own ?h ?_); (case h => rfl)) | with_reducible refine w_int ?_ | ((with_reducible refine' w_k ?h ?_); (case h => decide +kernel)) | with_reducible refine w_bl ?_ | with_reducible refine w_non ?_ | with_reducible refine w_if ?_ | with_reducible refine w_andV ?_ | with_reducible refine w_orV ?_ | with_reducible refine w_notV ?_ | with_reducible refine w_tup ?_ | with_reducible refine w_lst ?_ | with_reducible refine w_cb ?_ | with_reducible refine w_chain ?_ | with_reducible refine w_slS ?_ | with_reducible refine w_slL ?_ | with_reducible refine w_find1 ?_ | with_reducible refine w_find2 ?_ | with_reducible refine w_rfind1 ?_ | with_reducible refine w_rfind3 ?_ | with_reducible refine w_neg ?_ | with_reducible refine w_ref ?_ | with_reducible refine w_ty ?_ | with_reducible refine wt_test ?_ | with_reducible refine wt_B ?_ | with_reducible refine wt_and ?_ | with_reducible refine wt_or ?_ | with_reducible refine wt_not ?_ | with_reducible refine wt_yes ?_ | with_reducible refine wd_nil ?_ | with_reducible refine wd_cons ?_ | with_reducible refine wa_nil ?_ | with_reducible refine wa_cons ?_ | with_reducible refine wo_none ?_ | with_reducible refine wo_some ?_ | with_reducible refine rd_I0i ?_ | with_reducible refine rd_I0b ?_ | with_reducible refine rd_eqI ?_ | with_reducible refine rd_neI ?_ | with_reducible refine rd_eqS ?_ | with_reducible refine rd_neS ?_ | with_reducible refine rd_isN ?_ | with_reducible refine rd_notN ?_ | with_reducible refine rd_inSign ?_ | with_reducible refine cd_lenL ?_ | ((with_reducible refine' cd_lenS ?h ?_); (case h => first | assumption | omega)) | with_reducible refine cd_lenT ?_ | with_reducible refine cd_lenR ?_ | with_reducible refine cd_abs ?_ | with_reducible refine cd_max2 ?_ | with_reducible refine cd_min2 ?_ | with_reducible refine cd_intB ?_ | with_reducible refine cd_ord ?_ | with_reducible refine g_name ?_ | with_reducible refine ⟨_, rfl, ?_⟩ | with_reducible refine rd_leS ?_)
local macro_rules | `(tactic| walk_at "xs") => `(tactic| repeat (first | with_reducible refine t_seq ?_ | with_reducible refine t_ret ?_ | with_reducible refine t_set ?_ | with_reducible refine t_drop ?_ | with_reducible refine t_if ?_ | with_reducible refine t_next ?_ | with_reducible refine t_raise ?_ | with_reducible refine t_asg ?_ | with_reducible refine t_retN ?_ | with_reducible refine w_op ?_ | ((with_reducible refine' w_var ?h ?_); (case h => rfl)) | ((with_reducible refine' w_own ?h ?_); (case h => rfl)) | with_reducible refine w_int ?_ | ((with_reducible refine' w_k ?h ?_); (case h => decide +kernel)) | with_reducible refine w_bl ?_ | with_reducible refine w_non ?_ | with_reducible refine w_if ?_ | with_reducible refine w_andV ?_ | with_reducible refine w_orV ?_ | with_reducible refine w_notV ?_ | with_reducible refine w_tup ?_ | with_reducible refine w_lst ?_ | with_reducible refine w_cb ?_ | with_reducible refine w_chain ?_ | with_reducible refine w_slS ?_ | with_reducible refine w_slL ?_ | with_reducible refine w_find1 ?_ | with_reducible refine w_find2 ?_ | with_reducible refine w_rfind1 ?_ | with_reducible refine w_rfind3 ?_ | with_reducible refine w_neg ?_ | with_reducible refine w_ref ?_ | with_reducible refine w_ty ?_ | with_reducible refine wt_test ?_ | with_reducible refine wt_B ?_ | with_reducible refine wt_and ?_ | with_reducible refine wt_or ?_ | with_reducible refine wt_not ?_ | with_reducible refine wt_yes ?_ | with_reducible refine wd_nil ?_ | with_reducible refine wd_cons ?_ | with_reducible refine wa_nil ?_ | with_reducible refine wa_cons ?_ | with_reducible refine wo_none ?_ | with_reducible refine wo_some ?_ | with_reducible refine rd_I0i ?_ | with_reducible refine rd_I0b ?_ | with_reducible refine rd_eqI ?_ | with_reducible refine rd_neI ?_ | with_reducible refine rd_eqS ?_ | with_reducible refine rd_neS ?_ | with_reducible refine rd_isN ?_ | with_reducible refine rd_notN ?_ | with_reducible refine rd_inSign ?_ | with_reducible refine cd_lenL ?_ | ((with_reducible refine' cd_lenS ?h ?_); (case h => first | assumption | omega)) | with_reducible refine cd_lenT ?_ | with_reducible refine cd_lenR ?_ | with_reducible refine cd_abs ?_ | with_reducible refine cd_max2 ?_ | with_reducible refine cd_min2 ?_ | with_reducible refine cd_intB ?_ | with_reducible refine cd_ord ?_ | with_reducible refine g_name ?_ | with_reducible refine ⟨_, rfl, ?_⟩ | with_reducible refine rd_leS ?_ | simp only [List.set_cons_succ, List.set_cons_zero]))
theorem WT.imp {K : PySem.W.Frag} {E : WX} {tt : TT} {δ : Dl} {X : XX} {P P' : Bool → Dl → Prop} (h : WT K E tt δ P X) (i : ∀ b δ', P b δ' → P' b δ') : WT K E tt δ P' X := fun w σ Hb H s Q q e => h w σ Hb H s Q (fun b δ' w' Hb' H' p => q b δ' w' Hb' H' (i b δ' p)) e
theorem space_rfind {l : List Nat} {i : Nat} (h : atP l [32] i) : l[i]? = some 32 := by
  have h2 := h.2
  have : i < l.length := by have := h.1; simp at this; omega
  rw [List.drop_eq_getElem_cons this] at h2
  have h2 : [l[i]] = [32] := h2
  rw [List.getElem?_eq_getElem this]
  exact congrArg some (List.head_eq_of_cons_eq h2)
theorem rfind_space {l : List Nat} {i : Nat} (h : l[i]? = some 32) : atP l [32] i := by
  have hi := (List.getElem?_eq_some_iff.mp h).1
  refine ⟨by simp; omega, ?_⟩
  rw [List.drop_eq_getElem_cons hi]
  simp [(List.getElem?_eq_some_iff.mp h).2]
/-- the sign behind the last blank, by the search from the right -/
theorem cb_rfind {p : List Nat} {n : Nat} (hn : n ≤ p.length) (h : 32 ∈ p.take n) : Txt.rfind (S (p.take n)) (S [32]) + 1 = ((cbN p n : Nat) : Int) ∧ 0 < cbN p n := by
  have get : ∀ i, i < n → (p.take n)[i]? = p[i]? := fun i hi => by rw [List.getElem?_take, if_pos hi]
  obtain ⟨i, hi⟩ := List.mem_iff_getElem?.mp h
  have hin : i < n := by
    have := (List.getElem?_eq_some_iff.mp hi).1
    rw [List.length_take] at this
    omega
  rcases rfind1_spec (p.take n) [32] with ⟨_, h2⟩ | ⟨j, h1, h2, h3⟩
  · exact absurd (rfind_space hi) (h2 i)
  · have hj := space_rfind h2
    have hjn : j < n := by
      have := (List.getElem?_eq_some_iff.mp hj).1
      rw [List.length_take] at this
      omega
    rw [get j hjn] at hj
    have c1 := cb_last p n j hjn hj
    have c2 : cbN p n ≤ j + 1 := by
      rcases cb_at p n with z | z
      · omega
      · refine Nat.le_of_not_lt fun z2 => ?_
        have cl := cb_le p n
        exact h3 (cbN p n - 1) (by omega) (rfind_space (by rw [get _ (by omega)]; exact z))
    rw [h1]
    omega
theorem cb_none {p : List Nat} {n : Nat} (hn : n ≤ p.length) (h : 32 ∉ p.take n) : cbN p n = 0 := by
  rcases cb_at p n with z | z
  · exact z
  · refine Classical.byContradiction fun z2 => h ?_
    have cl := cb_le p n
    refine List.mem_iff_getElem?.mpr ⟨cbN p n - 1, ?_⟩
    rw [List.getElem?_take, if_pos (by omega)]
    exact z
def f__law_cut (K : PySem.W.Frag) (n : Nat) : FP := fun ds R _ => ∃ (p : List Nat) (w : Nat), ds = [.str p, .int w] ∧ (pieces w p).length ≤ n ∧ p.length ≤ 800 ∧ 2 ≤ w ∧ R (.lst ((pieces w p).map Da.str))
abbrev sp__law_cut (K : PySem.W.Frag) (n : Nat) : Sp := SpOf K (PF (f__law_cut K n))
def t__law_cut (K : PySem.W.Frag) (n : Nat) (E : XK) : TS := (tSeq (tIfS (tOr (tAnd (tTest (tOp rLe' (tCall (sp__law_wide K) [] L2.E0 (tCons (tBM K "str" rRstrip (tVar 0) (tCons (tK [32] " ") tNil)) tNil)) (tVar 1))) (tTest (tOp rNe (tBM K "str" rRstrip (tVar 0) (tCons (tK [32] " ") tNil)) (tK [] "")))) (tTest (tOp rLe' (tCall (sp__law_wide K) [] L2.E0 (tCons (tVar 0) tNil)) (tVar 1)))) (tRet (tLst (tCons (tVar 0) tNil))) tNext)
  (tSeq (tAsg (tCB (rMax K) (tCons (tLc (iRng1 (tCons (tOp rPlus (tCB (rLen K) (tCons (tVar 0) tNil)) (tC (.int 1))) tNil)) (gName 4) (tTest (tOp rLe' (tCall (sp__law_wide K) [] L2.E0 (tCons (tSl rSlS (tVar 0) tNoPart (tPart (tVar 4))) tNil)) (tVar 1))) (tVar 4) [4]) tNil)) (gName 2))
  (tSeq (tWhile (tAnd (tTest (tOp rLt' (tVar 2) (tCB (rLen K) (tCons (tVar 0) tNil)))) (tTest (tOp rEq (tOp rIxS (tVar 0) (tVar 2)) (tK [32] " ")))) (tAsg (tOp rPlus (tVar 2) (tC (.int 1))) (gName 2)))
  (tSeq (tIfS (tTest (tOp rEq (tVar 2) (tCB (rLen K) (tCons (tVar 0) tNil)))) (tRet (tLst (tCons (tVar 0) tNil))) tNext)
  (tSeq (tAsg (tSl rSlS (tVar 0) tNoPart (tPart (tVar 2))) (gName 3))
  (tSeq (tIfS (tTest (tOp rInSign (tK [32] " ") (tVar 3))) (tAsg (tSl rSlS (tVar 3) tNoPart (tPart (tOp rPlus (tBM K "str" rRfind1 (tVar 3) (tCons (tK [32] " ") tNil)) (tC (.int 1))))) (gName 3)) tNext)
  (tRet (tOp rCat (tLst (tCons (tVar 3) tNil)) (tCall (sp__law_cut K n) [] L2.E0 (tCons (tSl rSlS (tVar 0) (tPart (tCB (rLen K) (tCons (tVar 3) tNil))) tNoPart) (tCons (tVar 1) tNil)))))))))))
theorem len_f__law_cut {K : PySem.W.Frag} (n : Nat) : ∀ ds R X, f__law_cut K n ds R X → ds.length = 2 := by
  rintro ds R X ⟨_, _, rfl, _⟩
  rfl
theorem len__law_cut {K : PySem.W.Frag} (n : Nat) : ∀ vs H Q E, sp__law_cut K n vs H Q E → vs.length = 2 := fun _ _ _ _ h => spOf_len (pf_len (len_f__law_cut n)) h
theorem no__law_cut {K : PySem.W.Frag} : ∀ vs H Q E, ¬ sp__law_cut K 0 vs H Q E := by
  rintro vs H Q E ⟨w, Hb, ys, R, X, _, ⟨ds, _, p, w, _, h, _⟩, _⟩
  exact pieces_ne w p (List.length_eq_zero_iff.mp (Nat.le_zero.mp h))
theorem pure__law_cut {K : PySem.W.Frag} (n : Nat) {vs : List V} {H : Hp} {Q : VK} {E : XK} (h : sp__law_cut K (n + 1) vs H Q E) : t__law_cut K n E { nx := fun _ H' => Q .non H', rt := Q } (L2.start ["part", "width", "fit", "head", "k"] vs) H := by
  refine bodyP (ts := t__law_cut K n) 2 3 rfl (len_f__law_cut (n + 1)) (fun ds R X ⟨p, w, e, hn, hp, hw, hk⟩ => ?_) h
  subst e
  show T K _ (t__law_cut K n E) [some (.d (.str p)), some (.d (.int w)), none, none, none] _ _ _
  unfold t__law_cut
  refine t_seq (t_if (WT.imp (P := fun b δ' => δ' = [some (.d (.str p)), some (.d (.int w)), none, none, none] ∧ (b = true → wd (rs p) ≤ w ∨ wd p ≤ w)) ?_ ?_))
  · have second : WT K (fun c d _ H => E c d H) (tTest (tOp rLe' (tCall (sp__law_wide K) [] E0 (tCons (tVar 0) tNil)) (tVar 1))) [some (.d (.str p)), some (.d (.int w)), none, none, none] (fun b δ' => δ' = [some (.d (.str p)), some (.d (.int w)), none, none, none] ∧ (b = true → wd (rs p) ≤ w ∨ wd p ≤ w)) (fun C _ => X C) := by
      walk_at "xs"
      refine w_fn ?_
      walk_at "xs"
      refine ⟨_, rfl, by omega, ?_⟩
      walk_at "xs"
      refine ⟨trivial, fun hb => ?_⟩
      have := of_decide_eq_true hb
      exact .inr (by omega)
    walk_at "xs"
    refine w_fn ?_
    walk_at "xs"
    refine w_rstrip ?_
    walk_at "xs"
    refine ⟨by omega, ?_⟩
    walk_at "xs"
    rw [rstrip_S]
    have rl : (rs p).length ≤ p.length := by unfold rs; rw [List.length_take]; omega
    refine ⟨_, rfl, by omega, ?_⟩
    walk_at "xs"
    refine ⟨fun hb => ?_, fun hb => ?_⟩
    · have hb := of_decide_eq_true hb
      walk_at "xs"
      refine w_rstrip ?_
      walk_at "xs"
      refine ⟨by omega, ?_⟩
      walk_at "xs"
      refine ⟨fun _ => ⟨trivial, fun _ => .inl (by omega)⟩, fun _ => second⟩
    · exact ⟨(fun z => nomatch z), fun _ => second⟩
  rintro b δ' ⟨rfl, hb⟩
  refine ⟨fun z => ?_, fun z => ?_⟩
  · walk_at "xs"
    rw [pieces_last hw (row_full (hb z))] at hk
    exact ⟨by show 1 ≤ 16000000; decide, hk⟩
  clear hb z b
  have fle := fit_len w p
  have ele := end_len w p
  walk_at "xs"
  refine w_lcP (kI fun (k : Nat) => decide (wd (p.take k) ≤ w)) (wi_rng1 ?_)
  walk_at "xs"
  refine ⟨by omega, by omega, noneAt1 rfl, by rw [ran_len]; omega, fun i d hd => ?_, ?_⟩
  · have hi : i < p.length + 1 := by
      have := (List.getElem?_eq_some_iff.mp hd).1
      rw [ran_len] at this
      omega
    rw [ran_get (by omega), Int.zero_add] at hd
    cases hd
    refine gv_name (by simp) ?_
    walk_at "xs"
    refine w_fn ?_
    walk_at "xs"
    refine ⟨by omega, ?_⟩
    walk_at "xs"
    rw [cut_to]
    have tl : (p.take i).length ≤ 16000000 := by rw [List.length_take]; omega
    refine ⟨_, rfl, tl, ?_⟩
    walk_at "xs"
    refine ⟨fun hb => ?_, fun hb => ?_⟩
    · have := of_decide_eq_true hb
      walk_at "xs"
      exact ⟨kI_t (decide_eq_true (by omega)), rfl⟩
    · have := of_decide_eq_false hb
      exact ⟨kI_f (decide_eq_false (by omega)), rfl⟩
  have e1 : ((p.length : Int) + 1).toNat = p.length + 1 := by omega
  rw [e1, ran_map, filter_ints]
  have e2 : ((List.range (p.length + 1)).filter fun k => decide (wd (p.take k) ≤ w)).map (fun (k : Nat) => Da.int (k : Int)) = (((List.range (p.length + 1)).filter fun k => decide (wd (p.take k) ≤ w)).map fun (k : Nat) => (k : Int)).map Da.int := by rw [List.map_map]; rfl
  rw [e2]
  walk_at "xs"
  refine cd_max (m := ((fitN w p : Nat) : Int)) ?_ ?_ ⟨_, rfl, ?_⟩
  · refine List.mem_map.mpr ⟨fitN w p, List.mem_filter.mpr ⟨List.mem_range.mpr (by omega), decide_eq_true (fit_wd w p)⟩, rfl⟩
  · intro y hy
    obtain ⟨k, hk2, rfl⟩ := List.mem_map.mp hy
    obtain ⟨h1, h2⟩ := List.mem_filter.mp hk2
    have := fit_max w p k (by have := List.mem_range.mp h1; omega) (of_decide_eq_true h2)
    omega
  show T K _ _ [some (.d (.str p)), some (.d (.int w)), some (.d (.int ((fitN w p : Nat) : Int))), none, none] _ _ _
  refine t_seq (t_while (fun m δ => ∃ i : Nat, m = p.length - i ∧ i ≤ p.length ∧ endN w p = i + blN (p.drop i) ∧ δ = [some (.d (.str p)), some (.d (.int w)), some (.d (.int ((i : Nat) : Int))), none, none]) (p.length - fitN w p) ⟨fitN w p, rfl, by omega, rfl, rfl⟩ ?_)
  rintro m δ ⟨i, rfl, hil, hf, rfl⟩
  refine WT.imp (P := fun b δ' => δ' = [some (.d (.str p)), some (.d (.int w)), some (.d (.int ((i : Nat) : Int))), none, none] ∧ ((b = true ∧ p[i]? = some 32) ∨ (b = false ∧ blN (p.drop i) = 0))) ?_ ?_
  · walk_at "xs"
    refine ⟨fun hb => ?_, fun hb => ?_⟩
    · have hb := of_decide_eq_true hb
      have hi : i < p.length := by omega
      obtain ⟨c, hc⟩ : ∃ c, p[i]? = some c := ⟨_, List.getElem?_eq_getElem hi⟩
      walk_at "xs"
      refine rd_ixS (by omega) (atI_nat hc) ?_
      walk_at "xs"
      refine ⟨trivial, ?_⟩
      by_cases hs : c = 32
      · subst hs
        exact .inl ⟨rfl, hc⟩
      · exact .inr ⟨by simp [hs], bl_stop (.inr ⟨c, hc, hs⟩)⟩
    · have hb := of_decide_eq_false hb
      exact ⟨trivial, .inr ⟨trivial, bl_stop (.inl (by omega))⟩⟩
  rintro b δ' ⟨rfl, h | h⟩
  · obtain ⟨rfl, hc⟩ := h
    refine ⟨fun _ => ?_, fun z => nomatch z⟩
    have hi : i < p.length := (List.getElem?_eq_some_iff.mp hc).1
    walk_at "xs"
    exact ⟨p.length - (i + 1), by omega, i + 1, rfl, by omega, by rw [hf, bl_step hc], rfl⟩
  · obtain ⟨rfl, hz⟩ := h
    refine ⟨(fun z => nomatch z), fun _ => ?_⟩
    have hi : endN w p = i := by omega
    have hrow : rowN w p = if i = p.length then p.length else if 0 < cbN p i then cbN p i else i := by unfold rowN; rw [hi]
    walk_at "xs"
    refine ⟨fun hb => ?_, fun hb => ?_⟩
    · have hb := of_decide_eq_true hb
      rw [if_pos (by omega)] at hrow
      rw [pieces_last hw hrow] at hk
      walk_at "xs"
      exact ⟨by show 1 ≤ 16000000; decide, hk⟩
    · have hb := of_decide_eq_false hb
      rw [if_neg (by omega)] at hrow
      walk_at "xs"
      refine ⟨by omega, ?_⟩
      walk_at "x"
      walk_at "x"
      walk_at "x"
      walk_at "x"
      walk_at "x"
      rw [cut_to]
      have fin : T K (fun c d _ H => E c d H) (tRet (tOp rCat (tLst (tCons (tVar 3) tNil)) (tCall (sp__law_cut K n) [] E0 (tCons (tSl rSlS (tVar 0) (tPart (tCB (rLen K) (tCons (tVar 3) tNil))) tNoPart) (tCons (tVar 1) tNil))))) [some (.d (.str p)), some (.d (.int w)), some (.d (.int ((i : Nat) : Int))), some (.d (.str (p.take (rowN w p)))), none] (fun _ => R .non) (fun x δ' => RetD K 2 x δ' R) (fun C _ => X C) := by
        have hrl : rowN w p < p.length := by
          have := cb_le p i
          rw [hrow]
          split <;> omega
        have hne : p ≠ [] := fun z => by rw [z] at hrl; exact absurd hrl (Nat.not_lt_zero _)
        have hpos := row_pos (w := w) hw hne
        have htl : (p.take (rowN w p)).length = rowN w p := by rw [List.length_take]; omega
        rw [pieces_more hw hrl] at hk
        have hpl := pieces_len hw (p.drop (rowN w p))
        rw [List.length_drop] at hpl
        walk_at "xs"
        refine ⟨by show 1 ≤ 16000000; decide, ?_⟩
        refine w_fn ?_
        walk_at "xs"
        refine ⟨by omega, ?_⟩
        walk_at "xs"
        rw [htl, cut_from]
        refine ⟨_, _, rfl, by rw [pieces_more hw hrl, List.length_cons] at hn; omega, by rw [List.length_drop]; omega, hw, ?_⟩
        refine rd_cat (by rw [List.length_map]; show 1 + _ ≤ _; omega) ?_
        exact hk
      refine t_seq (T.imp (N := fun δ => δ = [some (.d (.str p)), some (.d (.int w)), some (.d (.int ((i : Nat) : Int))), some (.d (.str (p.take (rowN w p)))), none]) ?_ (fun δ h => by subst h; exact fin) (fun _ _ h => h))
      show T K _ _ [some (.d (.str p)), some (.d (.int w)), some (.d (.int ((i : Nat) : Int))), some (.d (.str (p.take i))), none] _ _ _
      walk_at "xs"
      refine ⟨fun hb2 => ?_, fun hb2 => ?_⟩
      · have hb2 := of_decide_eq_true hb2
        obtain ⟨c1, c2⟩ := cb_rfind hil hb2
        have cl := cb_le p i
        rw [if_pos c2] at hrow
        walk_at "xs"
        refine ⟨by rw [List.length_take]; omega, ?_⟩
        walk_at "xs"
        rw [c1, cut_to, List.take_take, Nat.min_eq_left cl, hrow]
      · have hb2 := of_decide_eq_false hb2
        rw [if_neg (by rw [cb_none hil hb2]; decide)] at hrow
        walk_at "xs"
        rw [hrow]
end Cr

namespace Cr
open PySem L2
local macro_rules | `(tactic| walk_at "x") => `(tactic| first | with_reducible refine t_seq ?_ | with_reducible refine t_ret ?_ | with_reducible refine t_set ?_ | with_reducible refine t_drop ?_ | with_reducible refine t_if ?_ | with_reducible refine t_next ?_ | with_reducible refine t_raise ?_ | with_reducible refine t_asg ?_ | with_reducible refine t_retN ?_ | with_reducible refine w_op ?_ | ((with_reducible refine' w_var ?h ?_); (case h => rfl)) | ((with_reducible refine' w_own ?h ?_); (case h => rfl)) | with_reducible refine w_int ?_ | ((with_reducible refine' w_k ?h ?_); (case h => decide +kernel)) | with_reducible refine w_bl ?_ | with_reducible refine w_non ?_ | with_reducible refine w_if ?_ | with_reducible refine w_andV ?_ | with_reducible refine w_orV ?_ | with_reducible refine w_notV ?_ | with_reducible refine w_tup ?_ | with_reducible refine w_lst ?_ | with_reducible refine w_cb ?_ | with_reducible refine w_chain ?_ | with_reducible refine w_slS ?_ | with_reducible refine w_slL ?_ | with_reducible refine w_find1 ?_ | with_reducible refine w_find2 ?_ | with_reducible refine w_rfind1 ?_ | with_reducible refine w_rfind3 ?_ | with_reducible refine w_neg ?_ | with_reducible refine w_ref ?_ | with_reducible refine w_ty ?_ | with_reducible refine wt_test ?_ | with_reducible refine wt_B ?_ | with_reducible refine wt_and ?_ | with_reducible refine wt_or ?_ | with_reducible refine wt_not ?_ | with_reducible refine wt_yes ?_ | with_reducible refine wd_nil ?_ | with_reducible refine wd_cons ?_ | with_reducible refine wa_nil ?_ | with_reducible refine wa_cons ?_ | with_reducible refine wo_none ?_ | with_reducible refine wo_some ?_ | with_reducible refine rd_I0i ?_ | with_reducible refine rd_I0b ?_ | with_reducible refine rd_eqI ?_ | with_reducible refine rd_neI ?_ | with_reducible refine rd_eqS ?_ | with_reducible refine rd_neS ?_ | with_reducible refine rd_isN ?_ | with_reducible refine rd_notN ?_ | with_reducible refine rd_inSign ?_ | with_reducible refine cd_lenL ?_ | ((with_reducible refine' cd_lenS ?h ?_); (case h => first | assumption | omega)) | with_reducible refine cd_lenT ?_ | with_reducible refine cd_lenR ?_ | with_reducible refine cd_abs ?_ | with_reducible refine cd_max2 ?_ | with_reducible refine cd_min2 ?_ | with_reducible refine cd_intB ?_ | with_reducible refine cd_ord ?_ | with_reducible refine g_name ?_ | with_reducible refine ⟨_, rfl, ?_⟩ | with_reducible refine rd_leS ?_)
local macro_rules | `(tactic| walk_at "xe") => `(tactic| repeat (first | with_reducible refine w_op ?_ | ((with_reducible refine' w_var ?h ?_); (case h => rfl)) | ((with_reducible refine' w_own ?h ?_); (case h => rfl)) | with_reducible refine w_int ?_ | ((with_reducible refine' w_k ?h ?_); (case h => decide +kernel)) | with_reducible refine w_bl ?_ | with_reducible refine w_non ?_ | with_reducible refine w_if ?_ | with_reducible refine w_andV ?_ | with_reducible refine w_orV ?_ | with_reducible refine w_notV ?_ | with_reducible refine w_tup ?_ | with_reducible refine w_lst ?_ | with_reducible refine w_cb ?_ | with_reducible refine w_chain ?_ | with_reducible refine w_slS ?_ | with_reducible refine w_slL ?_ | with_reducible refine w_find1 ?_ | with_reducible refine w_find2 ?_ | with_reducible refine w_rfind1 ?_ | with_reducible refine w_rfind3 ?_ | with_reducible refine w_neg ?_ | with_reducible refine w_ref ?_ | with_reducible refine w_ty ?_ | with_reducible refine wt_test ?_ | with_reducible refine wt_B ?_ | with_reducible refine wt_and ?_ | with_reducible refine wt_or ?_ | with_reducible refine wt_not ?_ | with_reducible refine wt_yes ?_ | with_reducible refine wd_nil ?_ | with_reducible refine wd_cons ?_ | with_reducible refine wa_nil ?_ | with_reducible refine wa_cons ?_ | with_reducible refine wo_none ?_ | with_reducible refine wo_some ?_ | with_reducible refine rd_I0i ?_ | with_reducible refine rd_I0b ?_ | with_reducible refine rd_eqI ?_ | with_reducible refine rd_neI ?_ | with_reducible refine rd_eqS ?_ | with_reducible refine rd_neS ?_ | with_reducible refine rd_isN ?_ | with_reducible refine rd_notN ?_ | with_reducible refine rd_inSign ?_ | with_reducible refine cd_lenL ?_ | ((with_reducible refine' cd_lenS ?h ?_); (case h => first | assumption | omega)) | with_reducible refine cd_lenT ?_ | with_reducible refine cd_lenR ?_ | with_reducible refine cd_abs ?_ | with_reducible refine cd_max2 ?_ | with_reducible refine cd_min2 ?_ | with_reducible refine cd_intB ?_ | with_reducible refine cd_ord ?_ | with_reducible refine g_name ?_ | with_reducible refine ⟨_, rfl, ?_⟩ | with_reducible refine rd_leS ?_ | simp only [List.set_cons_succ, List.set_cons_zero]))
local macro_rules | `(tactic| walk_at "xs") => `(tactic| repeat (first | with_reducible refine t_seq ?_ | with_reducible refine t_ret ?_ | with_reducible refine t_set ?_ | with_reducible refine t_drop ?_ | with_reducible refine t_if ?_ | with_reducible refine t_next ?_ | with_reducible refine t_raise ?_ | with_reducible refine t_asg ?_ | with_reducible refine t_retN ?_ | with_reducible refine w_op ?_ | ((with_reducible refine' w_var ?h ?_); (case h => rfl)) | ((with_reducible refine' w_own ?h ?_); (case h => rfl)) | with_reducible refine w_int ?_ | ((with_reducible refine' w_k ?h ?_); (case h => decide +kernel)) | with_reducible refine w_bl ?_ | with_reducible refine w_non ?_ | with_reducible refine w_if ?_ | with_reducible refine w_andV ?_ | with_reducible refine w_orV ?_ | with_reducible refine w_notV ?_ | with_reducible refine w_tup ?_ | with_reducible refine w_lst ?_ | with_reducible refine w_cb ?_ | with_reducible refine w_chain ?_ | with_reducible refine w_slS ?_ | with_reducible refine w_slL ?_ | with_reducible refine w_find1 ?_ | with_reducible refine w_find2 ?_ | with_reducible refine w_rfind1 ?_ | with_reducible refine w_rfind3 ?_ | with_reducible refine w_neg ?_ | with_reducible refine w_ref ?_ | with_reducible refine w_ty ?_ | with_reducible refine wt_test ?_ | with_reducible refine wt_B ?_ | with_reducible refine wt_and ?_ | with_reducible refine wt_or ?_ | with_reducible refine wt_not ?_ | with_reducible refine wt_yes ?_ | with_reducible refine wd_nil ?_ | with_reducible refine wd_cons ?_ | with_reducible refine wa_nil ?_ | with_reducible refine wa_cons ?_ | with_reducible refine wo_none ?_ | with_reducible refine wo_some ?_ | with_reducible refine rd_I0i ?_ | with_reducible refine rd_I0b ?_ | with_reducible refine rd_eqI ?_ | with_reducible refine rd_neI ?_ | with_reducible refine rd_eqS ?_ | with_reducible refine rd_neS ?_ | with_reducible refine rd_isN ?_ | with_reducible refine rd_notN ?_ | with_reducible refine rd_inSign ?_ | with_reducible refine cd_lenL ?_ | ((with_reducible refine' cd_lenS ?h ?_); (case h => first | assumption | omega)) | with_reducible refine cd_lenT ?_ | with_reducible refine cd_lenR ?_ | with_reducible refine cd_abs ?_ | with_reducible refine cd_max2 ?_ | with_reducible refine cd_min2 ?_ | with_reducible refine cd_intB ?_ | with_reducible refine cd_ord ?_ | with_reducible refine g_name ?_ | with_reducible refine ⟨_, rfl, ?_⟩ | with_reducible refine rd_leS ?_ | simp only [List.set_cons_succ, List.set_cons_zero]))
theorem pr_get : ∀ (ls : List (List Nat)) (s k : Nat) (x : List Nat), ls[k]? = some x → (pr s ls)[k]? = some (s + ((ls.take k).map List.length).sum, s + ((ls.take k).map List.length).sum + x.length, decide (k + 1 < ls.length))
  | [], s, k, x, h => by simp at h
  | a :: r, s, 0, x, h => by
    simp at h
    subst h
    cases r with
    | nil => simp [pr]
    | cons b r => simp [pr]
  | a :: r, s, k + 1, x, h => by
    have ih := pr_get r (s + a.length) k x (by simpa using h)
    have e : (pr s (a :: r))[k + 1]? = (pr (s + a.length) r)[k]? := by simp [pr]
    rw [e, ih]
    simp
    omega
theorem pr_take {ls : List (List Nat)} {s k : Nat} {x : List Nat} (h : ls[k]? = some x) : (pr s ls).take (k + 1) = (pr s ls).take k ++ [(s + ((ls.take k).map List.length).sum, s + ((ls.take k).map List.length).sum + x.length, decide (k + 1 < ls.length))] := by
  rw [List.take_add_one, pr_get ls s k x h]
  rfl
theorem flat_sum (ls : List (List Nat)) : (ls.map List.length).sum = ls.flatten.length := by
  induction ls with
  | nil => rfl
  | cons a r ih => simp
theorem row_next {w : Nat} {p : List Nat} (h : rowN w p < p.length) : p[rowN w p]? ≠ some 32 := fun hz => by
  have he : endN w p ≠ p.length := fun z => by unfold rowN at h; rw [if_pos z] at h; omega
  have hb : p[endN w p]? ≠ some 32 := fun z => by
    have e : (p.drop (fitN w p))[blN (p.drop (fitN w p))]? = p[endN w p]? := by rw [List.getElem?_drop]; rfl
    exact bl_end (p.drop (fitN w p)) 32 (by rw [e]; exact z) rfl
  unfold rowN at hz
  rw [if_neg he] at hz
  split at hz
  · have hl := cb_le p (endN w p)
    by_cases hc : cbN p (endN w p) = endN w p
    · rw [hc] at hz
      exact hb hz
    · have := cb_last p (endN w p) _ (by omega) hz
      omega
  · exact hb hz
theorem row_two {w : Nat} {p : List Nat} {a d : Nat} (hw : 2 ≤ w) (h0 : p[0]? = some a) (hd : p[1]? = some d) (ha : a ≠ 32) (hag : gr a = false) (h1 : rowN w p = 1) : gr d = true := by
  refine Classical.byContradiction fun hg => ?_
  have hg : gr d = false := by simpa using hg
  cases p with
  | nil => simp at h0
  | cons x r =>
    cases r with
    | nil => simp at hd
    | cons y r =>
      simp at h0 hd
      subst h0 hd
      have hf := fit_max w (x :: y :: r) 2 (by simp) (by
        show wd [x, y] ≤ w
        rw [wid_cons, wd_one]
        unfold w1
        rw [hag, hg]
        exact hw)
      have he : 2 ≤ endN w (x :: y :: r) := by unfold endN; omega
      unfold rowN at h1
      split at h1
      · simp at h1
      · split at h1
        · rcases cb_at (x :: y :: r) (endN w (x :: y :: r)) with z | z
          · omega
          · rw [h1] at z
            simp at z
            exact ha z
        · omega
theorem count_nb {w : Nat} (hw : 2 ≤ w) (p : List Nat) : p[0]? ≠ some 32 → 3 * (pieces w p).length ≤ 2 * wd p + 3 ∧ (∀ c, p[0]? = some c → gr c = true → 3 * (pieces w p).length ≤ 2 * wd p + 2) := by
  refine pieces_ind hw (M := fun p => p[0]? ≠ some 32 → 3 * (pieces w p).length ≤ 2 * wd p + 3 ∧ (∀ c, p[0]? = some c → gr c = true → 3 * (pieces w p).length ≤ 2 * wd p + 2)) (fun p h => ?_) (fun p h hpos ih => ?_) p
  · intro hb
    rw [pieces_last hw h]
    refine ⟨by simp, fun c hc hg => ?_⟩
    cases p with
    | nil => simp at hc
    | cons a r =>
      simp at hc
      subst hc
      rw [wid_cons]
      unfold w1
      rw [if_pos hg]
      simp
      omega
  · intro hb
    have hx := row_next h
    have e0 : (p.drop (rowN w p))[0]? = p[rowN w p]? := by rw [List.getElem?_drop, Nat.add_zero]
    obtain ⟨i1, i2⟩ := ih (by rw [e0]; exact hx)
    have hs : wd p = wd (p.take (rowN w p)) + wd (p.drop (rowN w p)) := by rw [← wid_app, List.take_append_drop]
    rw [pieces_more hw h, List.length_cons]
    cases p with
    | nil => exact absurd h (Nat.not_lt_zero _)
    | cons a r =>
      have hwx : wd ((a :: r).take (rowN w (a :: r))) = w1 a + wd (r.take (rowN w (a :: r) - 1)) := by
        obtain ⟨k, hk⟩ : ∃ k, rowN w (a :: r) = k + 1 := ⟨rowN w (a :: r) - 1, by omega⟩
        rw [hk, List.take_succ_cons, wid_cons]
        rfl
      have ha := w1_pos a
      by_cases h2 : 2 ≤ wd ((a :: r).take (rowN w (a :: r)))
      · exact ⟨by omega, fun c hc hg => by omega⟩
      · -- one sign, narrow
        have hag : gr a = false := by
          cases hg : gr a with
          | false => rfl
          | true =>
            have : w1 a = 2 := by unfold w1; rw [hg]; rfl
            omega
        have hr0 : rowN w (a :: r) = 1 := by
          have hz : wd (r.take (rowN w (a :: r) - 1)) = 0 := by omega
          rw [wd_len] at hz
          have := List.length_eq_zero_iff.mp (show (r.take (rowN w (a :: r) - 1)).length = 0 by omega)
          rw [List.take_eq_nil_iff] at this
          rcases this with q | q
          · omega
          · rw [q] at h
            have : ([a] : List Nat).length = 1 := rfl
            rw [this] at h
            rw [q] at hpos
            omega
        refine ⟨?_, fun c hc hg => ?_⟩
        · have hgn : ∃ d, (a :: r)[1]? = some d ∧ gr d = true := by
            rw [hr0] at h
            obtain ⟨d, hd⟩ : ∃ d, (a :: r)[1]? = some d := ⟨_, List.getElem?_eq_getElem h⟩
            exact ⟨d, hd, row_two hw rfl hd (fun z => hb (by rw [z]; rfl)) hag hr0⟩
          obtain ⟨d, hd, hdg⟩ := hgn
          have := i2 d (by rw [e0, hr0]; exact hd) hdg
          omega
        · simp at hc
          subst hc
          rw [hag] at hg
          exact nomatch hg
theorem count_all {w : Nat} (hw : 2 ≤ w) (p : List Nat) : 3 * (pieces w p).length ≤ 2 * wd p + 4 := by
  by_cases h : rowN w p < p.length
  · have hx := row_next h
    have e0 : (p.drop (rowN w p))[0]? = p[rowN w p]? := by rw [List.getElem?_drop, Nat.add_zero]
    have i1 := (count_nb hw (p.drop (rowN w p)) (by rw [e0]; exact hx)).1
    have hs : wd p = wd (p.take (rowN w p)) + wd (p.drop (rowN w p)) := by rw [← wid_app, List.take_append_drop]
    have hne : p ≠ [] := fun z => by rw [z] at h; exact absurd h (Nat.not_lt_zero _)
    have hpos := row_pos hw hne
    have : 1 ≤ wd (p.take (rowN w p)) := by
      rw [wd_len, List.length_take]
      omega
    rw [pieces_more hw h, List.length_cons]
    omega
  · rw [pieces_last hw (Nat.le_antisymm (row_len w p) (by omega))]
    show 3 * 1 ≤ _
    omega
theorem wd_part : ∀ (t p : List Nat), p ∈ splitAt1 10 t → wd p ≤ wd t
  | [], p, h => by
    simp [splitAt1] at h
    subst h
    exact Nat.le_refl _
  | d :: l, p, h => by
    unfold splitAt1 at h
    rw [wid_cons]
    by_cases hd : d = 10
    · rw [if_pos hd] at h
      rcases List.mem_cons.mp h with rfl | h
      · exact Nat.zero_le _
      · have := wd_part l p h
        omega
    · rw [if_neg hd] at h
      cases e : splitAt1 10 l with
      | nil => exact absurd e (splitAt1_ne 10 l)
      | cons q qs =>
        rw [e] at h
        have ih := fun x hx => wd_part l x (by rw [e]; exact hx)
        rcases List.mem_cons.mp h with rfl | h
        · rw [wid_cons]
          have := ih q List.mem_cons_self
          omega
        · have := ih p (List.mem_cons_of_mem _ h)
          omega
def f__law_rows (K : PySem.W.Frag) : FP := fun ds R _ => ∃ (t : List Nat) (w : Nat), ds = [.str t, .int w] ∧ t.length ≤ 2000 ∧ (∀ p ∈ splitAt1 10 t, wd p ≤ 328) ∧ 2 ≤ w ∧ R (.lst ((rowsW w t).map dT))
abbrev sp__law_rows (K : PySem.W.Frag) : Sp := SpOf K (PF (f__law_rows K))
def t__law_rows (K : PySem.W.Frag) (E : XK) : TS := (tSeq (tAsgN (tLst tNil) (gName 2))
  (tSeq (tAsg (tC (.int 0)) (gName 3))
  (tSeq (tFor (iList K (tBM K "str" rSplit (tVar 0) (tCons (tK [10] "\n") tNil))) (gName 4) (tSeq (tAsg (tCall (sp__law_cut K 220) [] L2.E0 (tCons (tVar 4) (tCons (tVar 1) tNil))) (gName 5))
  (tSeq (tFor (iRng1 (tCons (tCB (rLen K) (tCons (tVar 5) tNil)) tNil)) (gName 6) (tSeq (tDrop (tBM K "list" rAppend (tVar 2) (tCons (tTup (tCons (tVar 3) (tCons (tOp rPlus (tVar 3) (tCB (rLen K) (tCons (tOp (rIxL K) (tVar 5) (tVar 6)) tNil))) (tCons (tOp rLt' (tOp rPlus (tVar 6) (tC (.int 1))) (tCB (rLen K) (tCons (tVar 5) tNil))) tNil)))) tNil)))
  (tAsg (tOp rPlus (tVar 3) (tCB (rLen K) (tCons (tOp (rIxL K) (tVar 5) (tVar 6)) tNil))) (gName 3))))
  (tAsg (tOp rPlus (tVar 3) (tC (.int 1))) (gName 3)))))
  (tRet (tVar 2)))))
theorem len_f__law_rows {K : PySem.W.Frag} : ∀ ds R X, f__law_rows K ds R X → ds.length = 2 := by
  rintro ds R X ⟨_, _, rfl, _⟩
  rfl
theorem len__law_rows {K : PySem.W.Frag} : ∀ vs H Q E, sp__law_rows K vs H Q E → vs.length = 2 := fun _ _ _ _ h => spOf_len (pf_len len_f__law_rows) h
theorem pure__law_rows {K : PySem.W.Frag} {vs : List V} {H : Hp} {Q : VK} {E : XK} (h : sp__law_rows K vs H Q E) : t__law_rows K E { nx := fun _ H' => Q .non H', rt := Q } (L2.start ["text", "width", "found", "start", "part", "some", "k"] vs) H := by
  refine bodyP (ts := t__law_rows K) 2 5 rfl len_f__law_rows (fun ds R X ⟨t, w, e, ht, htw, hw, hk⟩ => ?_) h
  subst e
  show T K _ (t__law_rows K E) [some (.d (.str t)), some (.d (.int w)), none, none, none, none, none] _ _ _
  unfold t__law_rows
  refine t_seq (t_newL (wd_nil ⟨by simp, fun q => ?_⟩))
  show T K _ _ [some (.d (.str t)), some (.d (.int w)), some (.o q (olst K [])), none, none, none, none] _ _ _
  walk_at "xs"
  have sp := split_len 10 t
  refine t_for (wi_list ?_)
  refine w_split (c := 10) (by decide) ?_
  walk_at "xs"
  refine ⟨by omega, ?_⟩
  walk_at "xs"
  refine ⟨trivial, _, rfl, ?_⟩
  unfold rowsW at hk
  generalize hps : splitAt1 10 t = ps at hk sp htw ⊢
  refine ⟨fun i δ => ∃ x y z : Option Dx, δ = [some (.d (.str t)), some (.d (.int w)), some (.o q (olst K ((rowsP w 0 (ps.take i)).map dT))), some (.d (.int ((((ps.take i).map List.length).sum + i : Nat) : Int))), x, y, z], ⟨none, none, none, rfl⟩, ?_, ?_⟩
  · rintro i d δ hd ⟨x, y, z, rfl⟩
    obtain ⟨p, hp, rfl⟩ := strs_get hd
    have hi : i < ps.length := (List.getElem?_eq_some_iff.mp hp).1
    have hpl := len_le_sum (List.mem_of_getElem? hp)
    have hrl := rowsP_len hw 0 (ps.take i)
    have hts := take_sum ps i
    have hpc := pieces_len hw p
    have hfl := pieces_flat hw p
    rw [List.length_take] at hrl
    refine g_name ?_
    walk_at "xs"
    refine w_fn ?_
    walk_at "xs"
    have hcnt := count_all hw p
    have hwp := htw p (List.mem_of_getElem? hp)
    have hlp := wd_len p
    refine ⟨p, w, rfl, by omega, by omega, hw, ?_⟩
    have hprow : rowsP w 0 (ps.take (i + 1)) = rowsP w 0 (ps.take i) ++ pr (((ps.take i).map List.length).sum + i) (pieces w p) := rowsP_take hp
    generalize pieces w p = ls at hpc hfl hprow ⊢
    walk_at "xs"
    refine t_for (wi_rng1 ?_)
    walk_at "xs"
    rw [List.length_map]
    refine ⟨by omega, by omega, ?_⟩
    refine ⟨fun k δ => ∃ z : Option Dx, δ = [some (.d (.str t)), some (.d (.int w)), some (.o q (olst K ((rowsP w 0 (ps.take i) ++ (pr (((ps.take i).map List.length).sum + i) ls).take k).map dT))), some (.d (.int ((((ps.take i).map List.length).sum + i + ((ls.take k).map List.length).sum : Nat) : Int))), some (.d (.str p)), some (.d (.lst (ls.map Da.str))), z], ⟨z, by simp⟩, ?_, ?_⟩
    · rintro k d δ hd ⟨z, rfl⟩
      have hkl : k < ls.length := by
        have := (List.getElem?_eq_some_iff.mp hd).1
        rw [ran_len] at this
        omega
      rw [ran_get (by omega), Int.zero_add] at hd
      cases hd
      obtain ⟨x, hx⟩ : ∃ x, ls[k]? = some x := ⟨_, List.getElem?_eq_getElem hkl⟩
      have hxd : (ls.map Da.str)[k]? = some (.str x) := by rw [List.getElem?_map, hx]; rfl
      have hxl := len_le_sum (List.mem_of_getElem? hx)
      rw [flat_sum, hfl] at hxl
      refine g_name ?_
      walk_at "xs"
      refine w_append ?_
      walk_at "xs"
      refine ⟨q, 2, rfl, ⟨_, rfl⟩, ?_⟩
      walk_at "xs"
      refine rd_ixL (atI_nat hxd) ?_
      walk_at "xs"
      rw [List.length_map]
      refine ⟨by show 3 ≤ 16000000; decide, _, _, rfl, rfl, by rw [List.length_map, List.length_append, List.length_take, pr_len]; omega, ?_⟩
      walk_at "xs"
      refine rd_ixL (atI_nat hxd) ?_
      walk_at "xs"
      refine ⟨some (.d (.int (k : Int))), ?_⟩
      rw [pr_take hx, sum_take hx, ← List.append_assoc, List.map_append]
      have e1 : ∀ a b c : Nat, ((a + b : Nat) : Int) + (c : Int) = ((a + (b + c) : Nat) : Int) := fun a b c => by omega
      have e2 : decide ((k : Int) + 1 < (ls.length : Int)) = decide (k + 1 < ls.length) := decide_eq_decide.mpr (by omega)
      rw [e1, e2]
      simp only [List.map_append, List.map_cons, List.map_nil, dT]
      rw [Nat.add_assoc _ _ x.length]
    · rintro δ ⟨z, rfl⟩
      rw [ran_len]
      have e0 : ((ls.length : Int)).toNat = ls.length := Int.toNat_natCast _
      have e3 : (pr (((ps.take i).map List.length).sum + i) ls).take ls.length = pr (((ps.take i).map List.length).sum + i) ls := List.take_of_length_le (by rw [pr_len]; exact Nat.le_refl _)
      have e4 : ((ls.take ls.length).map List.length).sum = p.length := by rw [List.take_of_length_le (Nat.le_refl _), flat_sum, hfl]
      rw [e0, e3, e4]
      walk_at "xs"
      refine ⟨some (.d (.str p)), some (.d (.lst (ls.map Da.str))), z, ?_⟩
      rw [hprow, sum_take hp]
      have e1 : ((((ps.take i).map List.length).sum + i + p.length : Nat) : Int) + 1 = ((((ps.take i).map List.length).sum + p.length + (i + 1) : Nat) : Int) := by omega
      rw [e1]
  · rintro δ ⟨x, y, z, rfl⟩
    rw [List.length_map, List.take_of_length_le (Nat.le_refl _)]
    refine t_freeze (i := 2) rfl ?_
    walk_at "xs"
    exact hk
end Cr

namespace Cr
open PySem L2
/-! ### the end of each law's _law_told -/
theorem tail_okI {K : PySem.W.Frag} {E : WX} {δ : Dl} {i j : Nat} {d : Da} {N : Dl → Prop} {R : PX} {X : XX} (h1 : δ[i]? = some (some (.d .non))) (h2 : δ[j]? = some (some (.d d))) (k : R (.d d) δ) :
    T K E (tRet (tIf (tTest (tOp rIsNone (tVar i) (tC .non))) (tVar j) (tCall (sp__law_refusal K) [] L2.E0 (tCons (tVar i) tNil)))) δ N R X :=
  t_ret (w_if (wt_test (w_op (w_var h1 (w_non (rd_isN ⟨_, rfl, fun _ => w_var h2 k, fun z => nomatch z⟩))))))
theorem tail_excI {K : PySem.W.Frag} {E : WX} {δ : Dl} {i j : Nat} {C : Str} {N : Dl → Prop} {R : PX} {X : XX} (h1 : δ[i]? = some (some (.d (.exc C)))) (hC : C ∈ four) (F : ExF K C) (k : R (.d (refu C)) δ) :
    T K E (tRet (tIf (tTest (tOp rIsNone (tVar i) (tC .non))) (tVar j) (tCall (sp__law_refusal K) [] L2.E0 (tCons (tVar i) tNil)))) δ N R X :=
  t_ret (w_if (wt_test (w_op (w_var h1 (w_non (rd_isN ⟨_, rfl, (fun z => nomatch z), fun _ => w_fn (wd_cons (w_var h1 ⟨_, rfl, wd_nil ⟨C, rfl, hC, F, k⟩⟩))⟩))))))
theorem mT : ("BadText" : Str) ∈ four := by simp [four]
theorem mS : ("BadSize" : Str) ∈ four := by simp [four]
theorem mP : ("BadPlace" : Str) ∈ four := by simp [four]
theorem mM : ("BadMove" : Str) ∈ four := by simp [four]
theorem isText_of {l : List Nat} (h1 : l.length ≤ 2000) (h2 : ∀ c ∈ l, okSign c = true) : isText l = true := by
  unfold isText
  rw [decide_eq_true h1, Bool.true_and]
  exact List.all_eq_true.mpr h2
theorem text_len {t : List Nat} (h : isText t = true) : t.length ≤ 2000 := by
  unfold isText at h
  simp at h
  exact h.1
theorem text_ok {t : List Nat} (h : isText t = true) : ∀ c ∈ t, okSign c = true := by
  unfold isText at h
  rw [Bool.and_eq_true] at h
  exact List.all_eq_true.mp h.2
theorem lv_strs {l : List Nat} (h : ∀ c ∈ l, okSign c = true) (n : Nat) : lv n (.str l) := by
  have : ∀ c ∈ l, c < 1114112 := fun c hc => by
    have := h c hc
    unfold okSign at this
    simp at this
    omega
  cases n <;> exact this
theorem lv_refu (C : Str) : lv 1 (refu C) := by
  intro x hx
  simp only [List.mem_cons, List.not_mem_nil, or_false] at hx
  rcases hx with rfl | rfl
  · show ∀ c ∈ sRef, c < 1114112
    decide
  · show ∀ c ∈ excName C, c < 1114112
    unfold excName
    split
    · decide
    · split
      · decide
      · split <;> decide
theorem lv_lst {n : Nat} {ds : List Da} (h : ∀ d ∈ ds, lv n d) : lv (n + 1) (.lst ds) := fun x hx => h x hx
theorem lv_tup {n : Nat} {ds : List Da} (h : ∀ d ∈ ds, lv n d) : lv (n + 1) (.tup ds) := fun x hx => h x hx
theorem lv_dT (r : R3) : lv 1 (dT r) := by
  intro x hx
  simp only [List.mem_cons, List.not_mem_nil, or_false] at hx
  rcases hx with rfl | rfl | rfl <;> trivial
theorem lv_rows (l : List R3) : lv 2 (.lst (l.map dT)) := lv_lst fun d hd => by
  obtain ⟨r, _, rfl⟩ := List.mem_map.mp hd
  exact lv_dT r
/-! ### rows and their texts -/
def fl2 : List (List Nat) → List (Bool × List Nat)
  | [] => []
  | x :: r => (!r.isEmpty, x) :: fl2 r
theorem pr_pairs : ∀ (ls : List (List Nat)) (t : List Nat) (s : Nat), (t.drop s).take ls.flatten.length = ls.flatten → (pr s ls).map (fun r => (r.2.2, tx t r)) = fl2 ls
  | [], _, _, _ => rfl
  | x :: r, t, s, h => by
    rw [List.flatten_cons, List.length_append] at h
    have hx : (t.drop s).take x.length = x := by
      have := congrArg (List.take x.length) h
      rw [List.take_take, Nat.min_eq_left (Nat.le_add_right _ _), List.take_left] at this
      exact this
    have hr : (t.drop (s + x.length)).take r.flatten.length = r.flatten := by
      have := congrArg (List.drop x.length) h
      rw [List.drop_take, List.drop_drop, List.drop_left, Nat.add_sub_cancel_left] at this
      exact this
    show ((!r.isEmpty), tx t (s, s + x.length, !r.isEmpty)) :: (pr (s + x.length) r).map (fun r => (r.2.2, tx t r)) = (!r.isEmpty, x) :: fl2 r
    rw [pr_pairs r t _ hr]
    congr 2
    show (t.drop s).take (s + x.length - s) = x
    rw [Nat.add_sub_cancel_left, hx]
theorem rows_pairs {w : Nat} (hw : 2 ≤ w) : ∀ (ps : List (List Nat)) (pre : List Nat), (rowsP w pre.length ps).map (fun r => (r.2.2, tx (pre ++ glue ps) r)) = ps.flatMap fun p => fl2 (pieces w p)
  | [], pre => rfl
  | [a], pre => by
    show (pr pre.length (pieces w a) ++ []).map _ = _
    rw [List.append_nil, pr_pairs]
    · simp
    · rw [pieces_flat hw]
      simp [glue]
  | a :: b :: r, pre => by
    have ih := rows_pairs hw (b :: r) (pre ++ a ++ [10])
    have e : pre ++ glue (a :: b :: r) = pre ++ a ++ [10] ++ glue (b :: r) := by simp [glue]
    have e2 : (pre ++ a ++ [10]).length = pre.length + a.length + 1 := by simp; omega
    rw [e2] at ih
    show (pr pre.length (pieces w a) ++ rowsP w (pre.length + a.length + 1) (b :: r)).map _ = _
    rw [e, List.map_append, ih, pr_pairs]
    · rfl
    · rw [pieces_flat hw]
      simp
theorem rowsW_pairs {w : Nat} (hw : 2 ≤ w) (t : List Nat) : (rowsW w t).map (fun r => (r.2.2, tx t r)) = (splitAt1 10 t).flatMap fun p => fl2 (pieces w p) := by
  have := rows_pairs hw (splitAt1 10 t) []
  rw [List.nil_append, glue_split] at this
  exact this
theorem pieces_narrow {w : Nat} (hw : 2 ≤ w) (p : List Nat) : ∀ x ∈ pieces w p, wd (rs x) ≤ w := by
  refine pieces_ind hw (M := fun p => ∀ x ∈ pieces w p, wd (rs x) ≤ w) (fun p h => ?_) (fun p h _ ih => ?_) p
  · rw [pieces_last hw h]
    intro x hx
    rw [List.mem_singleton.mp hx]
    have := row_narrow (w := w) (n := p.length) (p := p) (by rw [← h]; exact row_end_le w p)
    rw [List.take_length] at this
    exact this
  · rw [pieces_more hw h]
    intro x hx
    rcases List.mem_cons.mp hx with rfl | hx
    · exact row_narrow (row_end_le w p)
    · exact ih x hx
theorem fl2_mem : ∀ {ls : List (List Nat)} {q : Bool × List Nat}, q ∈ fl2 ls → q.2 ∈ ls
  | [], q, h => by simp [fl2] at h
  | x :: r, q, h => by
    rcases List.mem_cons.mp (show q ∈ (!r.isEmpty, x) :: fl2 r from h) with rfl | h
    · exact List.mem_cons_self
    · exact List.mem_cons_of_mem _ (fl2_mem h)
theorem rows_narrow {w : Nat} (hw : 2 ≤ w) (t : List Nat) : ∀ r ∈ rowsW w t, wd (rs (tx t r)) ≤ w := fun r hr => by
  have h : (r.2.2, tx t r) ∈ (rowsW w t).map (fun r => (r.2.2, tx t r)) := List.mem_map.mpr ⟨r, hr, rfl⟩
  rw [rowsW_pairs hw] at h
  obtain ⟨p, _, hp⟩ := List.mem_flatMap.mp h
  exact pieces_narrow hw p _ (fl2_mem hp)
/-- the rows' texts one behind the other, with a line end behind a hard row -/
def wh : List (Bool × List Nat) → List Nat
  | [] => []
  | (b, x) :: r => x ++ (if (b || r.isEmpty) = true then [] else [10]) ++ wh r
theorem wh_fl2 : ∀ (ls : List (List Nat)) (rest : List (Bool × List Nat)), ls ≠ [] → wh (fl2 ls ++ rest) = ls.flatten ++ (if rest.isEmpty then [] else [10]) ++ wh rest
  | [], _, h => absurd rfl h
  | [x], rest, _ => by
    show x ++ (if (false || rest.isEmpty) = true then [] else [10]) ++ wh rest = _
    simp
  | x :: y :: r, rest, _ => by
    show x ++ (if (true || (fl2 (y :: r) ++ rest).isEmpty) = true then [] else [10]) ++ wh (fl2 (y :: r) ++ rest) = _
    rw [wh_fl2 (y :: r) rest (List.cons_ne_nil _ _)]
    simp
theorem fl2_ne {ls : List (List Nat)} (h : ls ≠ []) : fl2 ls ≠ [] := by
  cases ls with
  | nil => exact absurd rfl h
  | cons => exact List.cons_ne_nil _ _
theorem wh_parts {w : Nat} (hw : 2 ≤ w) : ∀ ps : List (List Nat), wh (ps.flatMap fun p => fl2 (pieces w p)) = glue ps
  | [] => rfl
  | [a] => by
    have := wh_fl2 (pieces w a) [] (pieces_ne w a)
    simp only [List.append_nil, List.isEmpty_nil, if_true] at this
    simp only [List.flatMap_cons, List.flatMap_nil, List.append_nil]
    rw [this, pieces_flat hw]
    simp [wh, glue]
  | a :: b :: r => by
    rw [List.flatMap_cons, wh_fl2 _ _ (pieces_ne w a), wh_parts hw (b :: r), pieces_flat hw, List.flatMap_cons]
    have : (fl2 (pieces w b) ++ r.flatMap fun p => fl2 (pieces w p)).isEmpty = false := by
      cases h : fl2 (pieces w b) with
      | nil => exact absurd h (fl2_ne (pieces_ne w b))
      | cons => rfl
    rw [this]
    simp [glue]
theorem wh_text {w : Nat} (hw : 2 ≤ w) (t : List Nat) : wh ((rowsW w t).map fun r => (r.2.2, tx t r)) = t := by
  rw [rowsW_pairs hw, wh_parts hw, glue_split]
end Cr

namespace Cr
open PySem PySem.Spec PyProof.Rows L2
/-! ### min of a list of pairs of whole numbers -/
def pd (q : Int × Int) : PyData := .tuple [.int q.1, .int q.2]
def code (q : Int × Int) : Int := q.1 * 10000 + q.2
theorem pd_lt {q r : Int × Int} (hq : 0 ≤ q.2 ∧ q.2 < 10000) (hr : 0 ≤ r.2 ∧ r.2 < 10000) : PySem.W.dataLt (pd q) (pd r) = decide (code q < code r) := by
  obtain ⟨a, b⟩ := q
  obtain ⟨c, d⟩ := r
  unfold PySem.W.dataLt pd code
  simp only [PySem.W.keyToks, PySem.W.keyToksAll, List.cons_append, List.nil_append]
  have bl : ∀ x y : Int, (PyProof.Rows.itemOrd.blt (.inl x) (.inl y)) = decide (x < y) := fun _ _ => rfl
  by_cases h1 : a = c
  · subst h1
    rw [lex_self, lex_self, lex_self]
    by_cases h2 : b = d
    · subst h2
      rw [lex_irrefl, decide_eq_false (by omega)]
    · rw [lex_diff (by intro z; cases z; exact h2 rfl), bl]
      exact decide_eq_decide.mpr (by omega)
  · rw [lex_self, lex_diff (by intro z; cases z; exact h1 rfl), bl]
    refine decide_eq_decide.mpr ⟨fun h => ?_, fun h => ?_⟩
    · simp only at hq hr
      omega
    · simp only at hq hr
      omega
theorem pd_alike (ps : List (Int × Int)) : PySem.W.AlikeAll (ps.map pd) := by
  refine ⟨fun x hx y hy => ?_, fun x hx => ?_⟩
  · obtain ⟨q, _, rfl⟩ := List.mem_map.mp hx
    obtain ⟨r, _, rfl⟩ := List.mem_map.mp hy
    rfl
  · obtain ⟨q, _, rfl⟩ := List.mem_map.mp hx
    exact fun z => nomatch z
theorem pd_depth : ∀ ps : List (Int × Int), PyData.depthAll (ps.map pd) ≤ 2
  | [] => by simp [PyData.depthAll]
  | q :: ps => by
    have := pd_depth ps
    show max (pd q).depth (PyData.depthAll (ps.map pd)) ≤ 2
    have h : (pd q).depth ≤ 2 := by simp [pd, PyData.depth, PyData.depthAll]
    omega
def rMinP (K : PySem.W.Frag) : List V → Hp → VK → Prop := fun vs H Q => ∃ (a : Addr) (xs : List V) (ps : List (Int × Int)), vs = [.ref a] ∧ SqL K H a xs ∧ DpAll K H xs (ps.map pd) ∧ ps ≠ [] ∧ (∀ q ∈ ps, 0 ≤ q.2 ∧ q.2 < 10000) ∧
  ∀ (i : Nat) q v, ps[i]? = some q → xs[i]? = some v → (∀ q' ∈ ps, code q ≤ code q') → Q v H
theorem cr_minP {X : Cx} (hc : X.calm = true) (hu : X.A.units + 64 < cLine) : CallR X (.builtin "min") (rMinP X.K) := by
  intro pins s σ H vs us Q I r h
  obtain ⟨a, xs, ps, rfl, hs, hd, hne, hb, q⟩ := h
  obtain ⟨its, rv, hl, _⟩ := I.list hs
  rw [Vals.ref1 r]
  obtain ⟨as, hr⟩ := Dp.readsAll I (ps.map pd) xs its hd rv
  have hlen : its.length = ps.length := by
    have := PySem.W.readsAll_len (vs := its.toArray) (by simpa using hr)
    simpa using this
  have hpos : 0 < ps.length := List.length_pos_iff.mpr hne
  have hdep := pd_depth ps
  refine PySem.call_min_walkH (PySem.W.iter_listW (A := X.A.in1) (I.ok.hd hc) hl.isList fun s₂ e W st hfp hw hk => ?_)
  refine ⟨_, _, _, _, _, _, _, s.heap, _, rfl, W, st, hfp, by simpa using (by omega : 0 < its.length), hw, hk, PySem.W.cmpIn_lt (A := X.A.in1) (by simpa using hr) (pd_alike ps) (by show X.A.units + 1 + _ < _; omega), fun v s' hP m => ?_⟩
  obtain ⟨h', tk, rfl, hk'⟩ := PySem.W.moved_old e rfl m
  have ebt : ∀ i j, i < ps.length → j < ps.length → PySem.W.dataLt ((ps.map pd).getD i .none) ((ps.map pd).getD j .none) = decide (code (ps.getD i (0, 0)) < code (ps.getD j (0, 0))) := fun i j h1 h2 => by
    have e1 : ∀ k, k < ps.length → (ps.map pd).getD k .none = pd (ps.getD k (0, 0)) := fun k hk => by
      simp [List.getD, hk]
    have m1 : ∀ k, k < ps.length → ps.getD k (0, 0) ∈ ps := fun k hk => by
      simp [List.getD, hk]
    rw [e1 i h1, e1 j h2]
    exact pd_lt (hb _ (m1 i h1)) (hb _ (m1 j h2))
  have eab : ∀ k, k < ps.length → argBest (fun i j => PySem.W.dataLt ((ps.map pd).getD i .none) ((ps.map pd).getD j .none)) k = argBest (fun i j => decide (code (ps.getD i (0, 0)) < code (ps.getD j (0, 0)))) k := fun k => by
    induction k with
    | zero => exact fun _ => rfl
    | succ k ih =>
      intro hk
      have hb2 := (argBest_lt (fun i => code (ps.getD i (0, 0))) k).1
      show (if PySem.W.dataLt _ _ = true then k + 1 else argBest _ k) = (if decide _ = true then k + 1 else argBest _ k)
      rw [ih (by omega), ebt _ _ (by omega) (by omega)]
  have hsz : its.toArray.size - 1 = ps.length - 1 := by simp [hlen]
  rw [hsz, eab _ (by omega)] at hP
  obtain ⟨b1, b2⟩ := argBest_lt (fun i => code (ps.getD i (0, 0))) (ps.length - 1)
  generalize argBest (fun i j => decide (code (ps.getD i (0, 0)) < code (ps.getD j (0, 0)))) (ps.length - 1) = i0 at hP b1 b2
  have hP : its[i0]? = some v := by simpa using hP
  have hi0 : i0 < ps.length := by omega
  have rvl := rv.length
  obtain ⟨x, hx⟩ : ∃ x, xs[i0]? = some x := ⟨_, List.getElem?_eq_getElem (by omega)⟩
  refine ⟨x, H, I.kept hk', ?_, q i0 _ x (List.getElem?_eq_getElem hi0) hx fun q' hq' => ?_⟩
  · obtain ⟨u, hu2, ru⟩ := rv.get hx
    rw [hP] at hu2
    cases hu2
    exact ru
  · obtain ⟨j, hj, rfl⟩ := List.getElem_of_mem hq'
    have := b2 j (by omega)
    simpa [List.getD, hi0, hj] using this
section
variable {K : PySem.W.Frag} {E : WX} {δ : Dl} {P : PX} {X : XX}
def dPair (q : Int × Int) : Da := .tup [.int q.1, .int q.2]
theorem pyL_pairs : ∀ ps : List (Int × Int), pyL (ps.map dPair) = ps.map pd
  | [] => rfl
  | q :: ps => by
    show py (dPair q) :: pyL (ps.map dPair) = pd q :: ps.map pd
    rw [pyL_pairs ps]
    rfl
theorem cd_minP {ps : List (Int × Int)} (hne : ps ≠ []) (hb : ∀ q ∈ ps, 0 ≤ q.2 ∧ q.2 < 10000) (k : ∀ q ∈ ps, (∀ q' ∈ ps, code q ≤ code q') → P (.d (dPair q)) δ) : CD K E (rMinP K) [.d (.lst (ps.map dPair))] δ P X := fun w σ Hb H vs s rv Q q _ => by
  cases rv with
  | cons r t =>
    cases t
    have r : Rp K Hb _ (.lst (ps.map dPair)) := r
    cases r with
    | @lst a xs _ ha rx =>
      have dp := RpAll.dp (n := 1) (rx.mono s.sub) (fun x hx => by
        obtain ⟨q, _, rfl⟩ := List.mem_map.mp hx
        intro y hy
        simp only [List.mem_cons, List.not_mem_nil, or_false] at hy
        rcases hy with rfl | rfl <;> trivial)
      rw [pyL_pairs] at dp
      refine ⟨a, xs, ps, rfl, SqL.of (s.sub _ _ ha), dp, hne, hb, fun i q0 v hq hv hm => ?_⟩
      obtain ⟨d, hd, rd⟩ := rx.getV hv
      rw [List.getElem?_map, hq] at hd
      cases hd
      exact q _ δ _ w Hb H (k q0 (List.mem_of_getElem? hq) hm) s rd (Fm.refl _ _ _)
end
end Cr

namespace Cr
open PySem L2
local macro_rules | `(tactic| walk_at "x") => `(tactic| first | with_reducible refine t_seq ?_ | with_reducible refine t_ret ?_ | with_reducible refine t_set ?_ | with_reducible refine t_drop ?_ | with_reducible refine t_if ?_ | with_reducible refine t_next ?_ | with_reducible refine t_raise ?_ | with_reducible refine t_asg ?_ | with_reducible refine t_retN ?_ | with_reducible refine w_op ?_ | ((with_reducible refine' w_var ?h ?_); (case h => rfl)) | ((with_reducible refine' w_own ?h ?_); (case h => rfl)) | with_reducible refine w_int ?_ | ((with_reducible refine' w_k ?h ?_); (case h => decide +kernel)) | with_reducible refine w_bl ?_ | with_reducible refine w_non ?_ | with_reducible refine w_if ?_ | with_reducible refine w_andV ?_ | with_reducible refine w_orV ?_ | with_reducible refine w_notV ?_ | with_reducible refine w_tup ?_ | with_reducible refine w_lst ?_ | with_reducible refine w_cb ?_ | with_reducible refine w_chain ?_ | with_reducible refine w_slS ?_ | with_reducible refine w_slL ?_ | with_reducible refine w_find1 ?_ | with_reducible refine w_find2 ?_ | with_reducible refine w_rfind1 ?_ | with_reducible refine w_rfind3 ?_ | with_reducible refine w_neg ?_ | with_reducible refine w_ref ?_ | with_reducible refine w_ty ?_ | with_reducible refine wt_test ?_ | with_reducible refine wt_B ?_ | with_reducible refine wt_and ?_ | with_reducible refine wt_or ?_ | with_reducible refine wt_not ?_ | with_reducible refine wt_yes ?_ | with_reducible refine wd_nil ?_ | with_reducible refine wd_cons ?_ | with_reducible refine wa_nil ?_ | with_reducible refine wa_cons ?_ | with_reducible refine wo_none ?_ | with_reducible refine wo_some ?_ | with_reducible refine rd_I0i ?_ | with_reducible refine rd_I0b ?_ | with_reducible refine rd_eqI ?_ | with_reducible refine rd_neI ?_ | with_reducible refine rd_eqS ?_ | with_reducible refine rd_neS ?_ | with_reducible refine rd_isN ?_ | with_reducible refine rd_notN ?_ | with_reducible refine rd_inSign ?_ | with_reducible refine cd_lenL ?_ | ((with_reducible refine' cd_lenS ?h ?_); (case h => first | assumption | omega)) | with_reducible refine cd_lenT ?_ | with_reducible refine cd_lenR ?_ | with_reducible refine cd_abs ?_ | with_reducible refine cd_max2 ?_ | with_reducible refine cd_min2 ?_ | with_reducible refine cd_intB ?_ | with_reducible refine cd_ord ?_ | with_reducible refine g_name ?_ | with_reducible refine ⟨_, rfl, ?_⟩ | with_reducible refine rd_leS ?_)
local macro_rules | `(tactic| walk_at "xs") => `(tactic| repeat (first | with_reducible refine t_seq ?_ | with_reducible refine t_ret ?_ | with_reducible refine t_set ?_ | with_reducible refine t_drop ?_ | with_reducible refine t_if ?_ | with_reducible refine t_next ?_ | with_reducible refine t_raise ?_ | with_reducible refine t_asg ?_ | with_reducible refine t_retN ?_ | with_reducible refine w_op ?_ | ((with_reducible refine' w_var ?h ?_); (case h => rfl)) | ((with_reducible refine' w_own ?h ?_); (case h => rfl)) | with_reducible refine w_int ?_ | ((with_reducible refine' w_k ?h ?_); (case h => decide +kernel)) | with_reducible refine w_bl ?_ | with_reducible refine w_non ?_ | with_reducible refine w_if ?_ | with_reducible refine w_andV ?_ | with_reducible refine w_orV ?_ | with_reducible refine w_notV ?_ | with_reducible refine w_tup ?_ | with_reducible refine w_lst ?_ | with_reducible refine w_cb ?_ | with_reducible refine w_chain ?_ | with_reducible refine w_slS ?_ | with_reducible refine w_slL ?_ | with_reducible refine w_find1 ?_ | with_reducible refine w_find2 ?_ | with_reducible refine w_rfind1 ?_ | with_reducible refine w_rfind3 ?_ | with_reducible refine w_neg ?_ | with_reducible refine w_ref ?_ | with_reducible refine w_ty ?_ | with_reducible refine wt_test ?_ | with_reducible refine wt_B ?_ | with_reducible refine wt_and ?_ | with_reducible refine wt_or ?_ | with_reducible refine wt_not ?_ | with_reducible refine wt_yes ?_ | with_reducible refine wd_nil ?_ | with_reducible refine wd_cons ?_ | with_reducible refine wa_nil ?_ | with_reducible refine wa_cons ?_ | with_reducible refine wo_none ?_ | with_reducible refine wo_some ?_ | with_reducible refine rd_I0i ?_ | with_reducible refine rd_I0b ?_ | with_reducible refine rd_eqI ?_ | with_reducible refine rd_neI ?_ | with_reducible refine rd_eqS ?_ | with_reducible refine rd_neS ?_ | with_reducible refine rd_isN ?_ | with_reducible refine rd_notN ?_ | with_reducible refine rd_inSign ?_ | with_reducible refine cd_lenL ?_ | ((with_reducible refine' cd_lenS ?h ?_); (case h => first | assumption | omega)) | with_reducible refine cd_lenT ?_ | with_reducible refine cd_lenR ?_ | with_reducible refine cd_abs ?_ | with_reducible refine cd_max2 ?_ | with_reducible refine cd_min2 ?_ | with_reducible refine cd_intB ?_ | with_reducible refine cd_ord ?_ | with_reducible refine g_name ?_ | with_reducible refine ⟨_, rfl, ?_⟩ | with_reducible refine rd_leS ?_ | simp only [List.set_cons_succ, List.set_cons_zero]))
/-! ### rows one behind the other -/
inductive Ch : Nat → List R3 → Nat → Prop
  | one {s e : Nat} : s ≤ e → Ch s [(s, e, false)] e
  | soft {s e n : Nat} {r : List R3} : s < e → Ch e r n → Ch s ((s, e, true) :: r) n
  | hard {s e n : Nat} {r : List R3} : s ≤ e → Ch (e + 1) r n → Ch s ((s, e, false) :: r) n
theorem Ch.le : ∀ {s n : Nat} {L : List R3}, Ch s L n → s ≤ n
  | _, _, _, .one h => h
  | _, _, _, .soft h c => by have := c.le; omega
  | _, _, _, .hard h c => by have := c.le; omega
theorem Ch.ne : ∀ {s n : Nat} {L : List R3}, Ch s L n → L ≠ []
  | _, _, _, .one h => List.cons_ne_nil _ _
  | _, _, _, .soft h c => List.cons_ne_nil _ _
  | _, _, _, .hard h c => List.cons_ne_nil _ _
theorem Ch.mem : ∀ {s n : Nat} {L : List R3}, Ch s L n → ∀ r ∈ L, s ≤ r.1 ∧ r.1 ≤ r.2.1 ∧ r.2.1 ≤ n
  | _, _, _, .one h, r, hr => by
    rw [List.mem_singleton.mp hr]
    exact ⟨Nat.le_refl _, h, Nat.le_refl _⟩
  | _, _, _, .soft h c, r, hr => by
    rcases List.mem_cons.mp hr with rfl | hr
    · exact ⟨Nat.le_refl _, Nat.le_of_lt h, c.le⟩
    · have := c.mem r hr
      omega
  | _, n, _, .hard (e := e) h c, r, hr => by
    rcases List.mem_cons.mp hr with rfl | hr
    · have := c.le
      exact ⟨Nat.le_refl _, h, by show e ≤ n; omega⟩
    · have := c.mem r hr
      omega
/-- the row that holds the caret -/
def atQ (o : Nat) (b : Bool) (r : R3) : Bool := decide (o < r.2.1) || (decide (o = r.2.1) && (!r.2.2 || b))
def rowAt (L : List R3) (o : Nat) (b : Bool) : Nat := if L.findIdx (atQ o b) < L.length then L.findIdx (atQ o b) else L.length - 1
theorem rowAt_lt {L : List R3} (h : L ≠ []) (o : Nat) (b : Bool) : rowAt L o b < L.length := by
  have := List.length_pos_iff.mpr h
  unfold rowAt
  split <;> omega
/-- the row found holds the offset; none ahead of it does so -/
structure IsAt (L : List R3) (o : Nat) (b : Bool) (k : Nat) : Prop where
  lt : k < L.length
  yes : ∀ r, L[k]? = some r → atQ o b r = true
  no : ∀ j r, j < k → L[j]? = some r → atQ o b r = false
theorem isAt_of {L : List R3} {o : Nat} {b : Bool} (h : L.findIdx (atQ o b) < L.length) : IsAt L o b (rowAt L o b) := by
  have e : rowAt L o b = L.findIdx (atQ o b) := by unfold rowAt; rw [if_pos h]
  rw [e]
  refine ⟨h, fun r hr => ?_, fun j r hj hr => ?_⟩
  · have := List.findIdx_getElem (w := h)
    rw [List.getElem?_eq_getElem h] at hr
    cases hr
    exact this
  · have := List.not_of_lt_findIdx hj
    rw [List.getElem?_eq_getElem (by omega)] at hr
    cases hr
    simpa using this
theorem Ch.ends : ∀ {s n : Nat} {L : List R3}, Ch s L n → ∃ r ∈ L, r.2.1 = n ∧ r.2.2 = false
  | _, _, _, .one h => ⟨_, List.mem_cons_self, rfl, rfl⟩
  | _, _, _, .soft h c => by obtain ⟨r, hr, h⟩ := c.ends; exact ⟨r, List.mem_cons_of_mem _ hr, h⟩
  | _, _, _, .hard h c => by obtain ⟨r, hr, h⟩ := c.ends; exact ⟨r, List.mem_cons_of_mem _ hr, h⟩
theorem Ch.found {s n : Nat} {L : List R3} (c : Ch s L n) {o : Nat} (ho : o ≤ n) (b : Bool) : L.findIdx (atQ o b) < L.length := by
  obtain ⟨r, hr, h1, h2⟩ := c.ends
  refine List.findIdx_lt_length_of_exists ⟨r, hr, ?_⟩
  unfold atQ
  rw [h1, h2]
  by_cases h : o < n
  · simp [h]
  · have : o = n := by omega
    simp [this]
theorem Ch.isAt {s n : Nat} {L : List R3} (c : Ch s L n) {o : Nat} (ho : o ≤ n) (b : Bool) : IsAt L o b (rowAt L o b) := isAt_of (c.found ho b)
/-- the row found holds the offset -/
theorem Ch.holds : ∀ {s n : Nat} {L : List R3}, Ch s L n → ∀ {o : Nat} {b : Bool} {k : Nat}, s ≤ o → IsAt L o b k → ∀ r, L[k]? = some r → r.1 ≤ o ∧ o ≤ r.2.1
  | _, e, _, .one h, o, b, 0, hs, a, r, hr => by
    have q := a.yes r hr
    simp at hr
    subst hr
    unfold atQ at q
    simp at q
    exact ⟨hs, by show o ≤ e; omega⟩
  | _, _, _, .one h, o, b, k + 1, hs, a, r, hr => by simp at hr
  | _, _, _, .soft (e := e) h c, o, b, 0, hs, a, r, hr => by
    have q := a.yes r hr
    simp at hr
    subst hr
    unfold atQ at q
    simp at q
    exact ⟨hs, by show o ≤ e; omega⟩
  | _, _, _, .hard (e := e) h c, o, b, 0, hs, a, r, hr => by
    have q := a.yes r hr
    simp at hr
    subst hr
    unfold atQ at q
    simp at q
    exact ⟨hs, by show o ≤ e; omega⟩
  | _, _, _, .soft (e := e) h c, o, b, k + 1, hs, a, r, hr => by
    have q := a.no 0 _ (by omega) rfl
    unfold atQ at q
    simp at q
    exact c.holds (k := k) (b := b) (by omega) ⟨by have := a.lt; simpa using this, fun r hr => a.yes r (by simpa using hr), fun j r hj hr => a.no (j + 1) r (by omega) (by simpa using hr)⟩ r (by simpa using hr)
  | _, _, _, .hard (e := e) h c, o, b, k + 1, hs, a, r, hr => by
    have q := a.no 0 _ (by omega) rfl
    unfold atQ at q
    simp at q
    exact c.holds (k := k) (b := b) (by omega) ⟨by have := a.lt; simpa using this, fun r hr => a.yes r (by simpa using hr), fun j r hj hr => a.no (j + 1) r (by omega) (by simpa using hr)⟩ r (by simpa using hr)
/-- back: none ahead of the row found holds the offset -/
theorem IsAt.before {L : List R3} {o k j : Nat} {r : R3} (a : IsAt L o true k) (hj : j < k) (hr : L[j]? = some r) : ¬ o ≤ r.2.1 := by
  have q := a.no j r hj hr
  unfold atQ at q
  simp at q
  omega
/-- forth: none behind it does -/
theorem Ch.after : ∀ {s n : Nat} {L : List R3}, Ch s L n → ∀ {o k j : Nat}, IsAt L o false k → k < j → ∀ r, L[j]? = some r → ¬ r.1 ≤ o
  | _, _, _, .one h, o, k, j, a, hj, r, hr => by
    have := a.lt
    have h2 := (List.getElem?_eq_some_iff.mp hr).1
    simp at this h2
    omega
  | _, _, _, .soft (e := e) h c, o, 0, j + 1, a, hj, r, hr => by
    have q := a.yes _ rfl
    unfold atQ at q
    simp at q
    have := (c.mem r (List.mem_of_getElem? (show _ = some r by simpa using hr))).1
    omega
  | _, _, _, .hard (e := e) h c, o, 0, j + 1, a, hj, r, hr => by
    have q := a.yes _ rfl
    unfold atQ at q
    simp at q
    have := (c.mem r (List.mem_of_getElem? (show _ = some r by simpa using hr))).1
    omega
  | _, _, _, .soft h c, o, k + 1, j + 1, a, hj, r, hr => c.after (k := k) (j := j) ⟨by have := a.lt; simpa using this, fun r hr => a.yes r (by simpa using hr), fun j r hj hr => a.no (j + 1) r (by omega) (by simpa using hr)⟩ (by omega) r (by simpa using hr)
  | _, _, _, .hard h c, o, k + 1, j + 1, a, hj, r, hr => c.after (k := k) (j := j) ⟨by have := a.lt; simpa using this, fun r hr => a.yes r (by simpa using hr), fun j r hj hr => a.no (j + 1) r (by omega) (by simpa using hr)⟩ (by omega) r (by simpa using hr)
theorem ch_prows {w : Nat} (hw : 2 ≤ w) (p : List Nat) : ∀ s, Ch s (prows w s p) (s + p.length) ∧ ∀ {r : List R3} {n : Nat}, Ch (s + p.length + 1) r n → Ch s (prows w s p ++ r) n := by
  refine pieces_ind hw (M := fun p => ∀ s, Ch s (prows w s p) (s + p.length) ∧ ∀ {r : List R3} {n : Nat}, Ch (s + p.length + 1) r n → Ch s (prows w s p ++ r) n) (fun p h s => ?_) (fun p h hpos ih s => ?_) p
  · rw [prows_last hw h]
    exact ⟨.one (by omega), fun c => .hard (by omega) c⟩
  · rw [prows_more hw h]
    obtain ⟨i1, i2⟩ := ih (s + rowN w p)
    rw [List.length_drop] at i1 i2
    have e : s + rowN w p + (p.length - rowN w p) = s + p.length := by omega
    rw [e] at i1 i2
    exact ⟨.soft (by omega) i1, fun c => .soft (by omega) (i2 c)⟩
theorem ch_rowsP {w : Nat} (hw : 2 ≤ w) : ∀ (ps : List (List Nat)) (s : Nat), ps ≠ [] → Ch s (rowsP w s ps) (s + (ps.map List.length).sum + ps.length - 1)
  | [], _, h => absurd rfl h
  | [p], s, _ => by
    have := (ch_prows hw p s).1
    show Ch s (prows w s p ++ []) _
    rw [List.append_nil]
    simpa using this
  | p :: q :: r, s, _ => by
    have ih := ch_rowsP hw (q :: r) (s + p.length + 1) (List.cons_ne_nil _ _)
    have := (ch_prows hw p s).2 ih
    have e : s + p.length + 1 + ((q :: r).map List.length).sum + (q :: r).length - 1 = s + ((p :: q :: r).map List.length).sum + (p :: q :: r).length - 1 := by
      simp
      omega
    rw [e] at this
    exact this
theorem ch_rowsW {w : Nat} (hw : 2 ≤ w) (t : List Nat) : Ch 0 (rowsW w t) t.length := by
  have := ch_rowsP hw (splitAt1 10 t) 0 (splitAt1_ne 10 t)
  have e := split_len 10 t
  have e2 : 0 + ((splitAt1 10 t).map List.length).sum + (splitAt1 10 t).length - 1 = t.length := by omega
  rw [e2] at this
  exact this
/-! ### columns -/
def colOf (t : List Nat) (s o : Nat) : Nat := wd ((t.drop s).take (o - s))
theorem col_mono {t : List Nat} {s a b : Nat} (h1 : s ≤ a) (h2 : a < b) (h3 : b ≤ t.length) : colOf t s a < colOf t s b := by
  unfold colOf
  have e : (t.drop s).take (b - s) = (t.drop s).take (a - s) ++ ((t.drop s).take (b - s)).drop (a - s) := by
    have : (t.drop s).take (a - s) = ((t.drop s).take (b - s)).take (a - s) := by rw [List.take_take, Nat.min_eq_left (by omega)]
    rw [this, List.take_append_drop]
  rw [e, wid_app]
  have : 1 ≤ wd (((t.drop s).take (b - s)).drop (a - s)) := by
    rw [wd_len, List.length_drop, List.length_take, List.length_drop]
    omega
  omega
def dis (t : List Nat) (s : Nat) (c : Int) (o : Nat) : Int := if ((colOf t s o : Nat) : Int) - c < 0 then -(((colOf t s o : Nat) : Int) - c) else ((colOf t s o : Nat) : Int) - c
/-- the offset nearest to the column, the first of such -/
structure Near (t : List Nat) (s e : Nat) (c : Int) (f : Nat) : Prop where
  lo : s ≤ f
  hi : f ≤ e
  le : ∀ o, s ≤ o → o ≤ e → dis t s c f ≤ dis t s c o
  lt : ∀ o, s ≤ o → o < f → dis t s c f < dis t s c o
theorem Near.uniq {t : List Nat} {s e : Nat} {c : Int} {f g : Nat} (a : Near t s e c f) (b : Near t s e c g) : f = g := by
  rcases Nat.lt_trichotomy f g with h | h | h
  · have h1 := b.lt f a.lo h
    have h2 := a.le g b.lo b.hi
    omega
  · exact h
  · have h1 := a.lt g b.lo h
    have h2 := b.le f a.lo a.hi
    omega
theorem Near.back {t : List Nat} {s e o : Nat} {f : Nat} (h1 : s ≤ o) (h2 : o ≤ e) (h3 : e ≤ t.length) (a : Near t s e ((colOf t s o : Nat) : Int) f) : f = o := by
  have h := a.le o h1 h2
  have hlo := a.lo
  have hhi := a.hi
  unfold dis at h
  rcases Nat.lt_trichotomy f o with q | q | q
  · have := col_mono (t := t) hlo q (by omega)
    rw [if_pos (by omega), if_neg (by omega)] at h
    omega
  · exact q
  · have := col_mono (t := t) h1 q (by omega)
    rw [if_neg (by omega), if_neg (by omega)] at h
    omega
/-! ### the walks -/
def f_row_at (K : PySem.W.Frag) : FP := fun ds R _ => ∃ (L : List R3) (o : Nat) (b : Bool), ds = [.lst (L.map dR), .int o, .bl b] ∧ RwF K ∧ L ≠ [] ∧ L.length ≤ 3000 ∧ R (.int ((rowAt L o b : Nat) : Int))
abbrev sp_row_at (K : PySem.W.Frag) : Sp := SpOf K (PF (f_row_at K))
def t_row_at (K : PySem.W.Frag) (E : XK) : TS := (tSeq (tFor (iRng1 (tCons (tCB (rLen K) (tCons (tVar 0) tNil)) tNil)) (gName 3) (tSeq (tAsg (tOp (rIxL K) (tVar 0) (tVar 3)) (gName 4))
  (tIfS (tOr (tTest (tOp rLt' (tVar 1) (tFld K (tVar 4) "end"))) (tAnd (tTest (tOp rEq (tVar 1) (tFld K (tVar 4) "end"))) (tOr (tNot (tB (tFld K (tVar 4) "is_soft"))) (tB (tVar 2))))) (tRet (tVar 3)) tNext)))
  (tRet (tOp rMinus (tCB (rLen K) (tCons (tVar 0) tNil)) (tC (.int 1)))))
theorem len_f_row_at {K : PySem.W.Frag} : ∀ ds R X, f_row_at K ds R X → ds.length = 3 := by
  rintro ds R X ⟨_, _, _, rfl, _⟩
  rfl
theorem len_row_at {K : PySem.W.Frag} : ∀ vs H Q E, sp_row_at K vs H Q E → vs.length = 3 := fun _ _ _ _ h => spOf_len (pf_len len_f_row_at) h
theorem findIdx_at {L : List R3} {q : R3 → Bool} {k : Nat} {r : R3} (hr : L[k]? = some r) (hq : q r = true) (hn : ∀ j x, j < k → L[j]? = some x → q x = false) : L.findIdx q = k := by
  have hk := (List.getElem?_eq_some_iff.mp hr).1
  have e := (List.getElem?_eq_some_iff.mp hr).2
  exact (List.findIdx_eq hk).mpr ⟨by rw [e]; exact hq, fun j hj => hn j _ hj (List.getElem?_eq_getElem (by omega))⟩
theorem findIdx_none {L : List R3} {q : R3 → Bool} (hn : ∀ (j : Nat) (x : R3), L[j]? = some x → q x = false) : ¬ L.findIdx q < L.length := fun h => by
  have := List.findIdx_getElem (w := h)
  rw [hn _ _ (List.getElem?_eq_getElem h)] at this
  exact nomatch this
theorem pure_row_at {K : PySem.W.Frag} {vs : List V} {H : Hp} {Q : VK} {E : XK} (h : sp_row_at K vs H Q E) : t_row_at K E { nx := fun _ H' => Q .non H', rt := Q } (L2.start ["rows", "offset", "is_back", "k", "row"] vs) H := by
  refine bodyP (ts := t_row_at K) 3 2 rfl len_f_row_at (fun ds R X ⟨L, o, b, e, F, hL, hl, hk⟩ => ?_) h
  subst e
  show T K _ (t_row_at K E) [some (.d (.lst (L.map dR))), some (.d (.int o)), some (.d (.bl b)), none, none] _ _ _
  unfold t_row_at
  have hpos := List.length_pos_iff.mpr hL
  refine t_seq (t_for (wi_rng1 ?_))
  walk_at "xs"
  rw [List.length_map]
  refine ⟨by omega, by omega, ?_⟩
  refine ⟨fun i δ => (∀ j r, j < i → L[j]? = some r → atQ o b r = false) ∧ ∃ x y : Option Dx, δ = [some (.d (.lst (L.map dR))), some (.d (.int o)), some (.d (.bl b)), x, y], ⟨(fun j r hj => absurd hj (Nat.not_lt_zero _)), none, none, rfl⟩, ?_, ?_⟩
  · rintro k d δ hd ⟨hno, x, y, rfl⟩
    have hkl : k < L.length := by
      have := (List.getElem?_eq_some_iff.mp hd).1
      rw [ran_len] at this
      omega
    rw [ran_get (by omega), Int.zero_add] at hd
    cases hd
    obtain ⟨r, hr⟩ : ∃ r, L[k]? = some r := ⟨_, List.getElem?_eq_getElem hkl⟩
    have hrd : (L.map dR)[k]? = some (dR r) := by rw [List.getElem?_map, hr]; rfl
    refine g_name ?_
    walk_at "xs"
    refine rd_ixL (atI_nat hrd) ⟨_, rfl, ?_⟩
    refine t_if (WT.imp (P := fun q δ' => q = atQ o b r ∧ δ' = [some (.d (.lst (L.map dR))), some (.d (.int o)), some (.d (.bl b)), some (.d (.int (k : Int))), some (.d (dR r))]) ?_ ?_)
    · walk_at "xs"
      refine w_end F ?_
      walk_at "xs"
      refine ⟨_, _, _, rfl, ?_⟩
      walk_at "xs"
      refine ⟨fun hb => ?_, fun hb => ?_⟩
      · have hb := of_decide_eq_true hb
        refine ⟨?_, trivial⟩
        unfold atQ
        rw [decide_eq_true (by omega), Bool.true_or]
      · have hb := of_decide_eq_false hb
        have e1 : decide (o < r.2.1) = false := decide_eq_false (by omega)
        walk_at "xs"
        refine w_end F ?_
        walk_at "xs"
        refine ⟨_, _, _, rfl, ?_⟩
        walk_at "xs"
        refine ⟨fun hc => ?_, fun hc => ?_⟩
        · have hc := of_decide_eq_true hc
          have e2 : decide (o = r.2.1) = true := decide_eq_true (by omega)
          walk_at "xs"
          refine w_soft F ?_
          walk_at "xs"
          refine ⟨_, _, _, rfl, _, rfl, ?_⟩
          refine ⟨fun hq => ⟨?_, trivial⟩, fun hq => ?_⟩
          · unfold atQ
            rw [e1, e2, hq]
            rfl
          · walk_at "xs"
            refine ⟨?_, trivial⟩
            unfold atQ
            rw [e1, e2, hq]
            simp
        · have hc := of_decide_eq_false hc
          have e2 : decide (o = r.2.1) = false := decide_eq_false (by omega)
          refine ⟨?_, trivial⟩
          unfold atQ
          rw [e1, e2]
          rfl
    rintro q δ' ⟨rfl, rfl⟩
    refine ⟨fun hq => ?_, fun hq => ?_⟩
    · walk_at "xs"
      unfold rowAt at hk
      rw [findIdx_at hr hq hno, if_pos hkl] at hk
      exact hk
    · refine t_next ⟨fun j x hj hx => ?_, _, _, rfl⟩
      rcases Nat.lt_or_ge j k with h | h
      · exact hno j x h hx
      · obtain rfl : j = k := by omega
        rw [hr] at hx
        cases hx
        exact hq
  · rintro δ ⟨hno, x, y, rfl⟩
    rw [ran_len] at hno
    walk_at "xs"
    rw [List.length_map]
    unfold rowAt at hk
    rw [if_neg (findIdx_none fun j x hx => hno j x (by have := (List.getElem?_eq_some_iff.mp hx).1; omega) hx)] at hk
    have e : ((L.length - 1 : Nat) : Int) = (L.length : Int) - 1 := by omega
    rw [e] at hk
    exact hk
def f_column_of (K : PySem.W.Frag) : FP := fun ds R _ => ∃ (t : List Nat) (s e : Nat) (b : Bool) (o : Nat), ds = [.str t, .row s e b, .int o] ∧ RwF K ∧ t.length ≤ 2000 ∧ R (.int ((colOf t s o : Nat) : Int))
abbrev sp_column_of (K : PySem.W.Frag) : Sp := SpOf K (PF (f_column_of K))
def t_column_of (K : PySem.W.Frag) (E : XK) : TS := (tRet (tCall (sp_wide K) [] L2.E0 (tCons (tSl rSlS (tVar 0) (tPart (tFld K (tVar 1) "start")) (tPart (tVar 2))) tNil)))
theorem len_f_column_of {K : PySem.W.Frag} : ∀ ds R X, f_column_of K ds R X → ds.length = 3 := by
  rintro ds R X ⟨_, _, _, _, _, rfl, _⟩
  rfl
theorem len_column_of {K : PySem.W.Frag} : ∀ vs H Q E, sp_column_of K vs H Q E → vs.length = 3 := fun _ _ _ _ h => spOf_len (pf_len len_f_column_of) h
theorem pure_column_of {K : PySem.W.Frag} {vs : List V} {H : Hp} {Q : VK} {E : XK} (h : sp_column_of K vs H Q E) : t_column_of K E { nx := fun _ H' => Q .non H', rt := Q } (L2.start ["text", "row", "offset"] vs) H := by
  refine bodyP (ts := t_column_of K) 3 0 rfl len_f_column_of (fun ds R X ⟨t, s, e, b, o, ed, F, ht, hk⟩ => ?_) h
  subst ed
  show T K _ (t_column_of K E) [some (.d (.str t)), some (.d (.row s e b)), some (.d (.int o))] _ _ _
  unfold t_column_of
  walk_at "xs"
  refine w_fn ?_
  walk_at "xs"
  refine ⟨by omega, ?_⟩
  walk_at "xs"
  refine w_start F ?_
  walk_at "xs"
  refine ⟨_, _, _, rfl, _, rfl, ?_⟩
  walk_at "xs"
  rw [cut_nat]
  refine ⟨_, rfl, by rw [List.length_take, List.length_drop]; omega, ?_⟩
  exact hk
def f_offset_at (K : PySem.W.Frag) : FP := fun ds R _ => ∃ (t : List Nat) (s e : Nat) (b : Bool) (c : Int), ds = [.str t, .row s e b, .int c] ∧ RwF K ∧ t.length ≤ 2000 ∧ s ≤ e ∧ e ≤ t.length ∧ ∀ f, Near t s e c f → R (.int ((f : Nat) : Int))
abbrev sp_offset_at (K : PySem.W.Frag) : Sp := SpOf K (PF (f_offset_at K))
def t_offset_at (K : PySem.W.Frag) (E : XK) : TS := (tSeq (tAsg (tFld K (tVar 1) "start") (gName 3))
  (tSeq (tFor (iRng2 (tCons (tFld K (tVar 1) "start") (tCons (tOp rPlus (tFld K (tVar 1) "end") (tC (.int 1))) tNil))) (gName 4) (tIfS (tTest (tOp rLt' (tCB rAbs (tCons (tOp rMinus (tCall (sp_column_of K) [] L2.E0 (tCons (tVar 0) (tCons (tVar 1) (tCons (tVar 4) tNil)))) (tVar 2)) tNil)) (tCB rAbs (tCons (tOp rMinus (tCall (sp_column_of K) [] L2.E0 (tCons (tVar 0) (tCons (tVar 1) (tCons (tVar 3) tNil)))) (tVar 2)) tNil)))) (tAsg (tVar 4) (gName 3)) tNext))
  (tRet (tVar 3))))
theorem len_f_offset_at {K : PySem.W.Frag} : ∀ ds R X, f_offset_at K ds R X → ds.length = 3 := by
  rintro ds R X ⟨_, _, _, _, _, rfl, _⟩
  rfl
theorem len_offset_at {K : PySem.W.Frag} : ∀ vs H Q E, sp_offset_at K vs H Q E → vs.length = 3 := fun _ _ _ _ h => spOf_len (pf_len len_f_offset_at) h
theorem pure_offset_at {K : PySem.W.Frag} {vs : List V} {H : Hp} {Q : VK} {E : XK} (h : sp_offset_at K vs H Q E) : t_offset_at K E { nx := fun _ H' => Q .non H', rt := Q } (L2.start ["text", "row", "column", "found", "offset"] vs) H := by
  refine bodyP (ts := t_offset_at K) 3 2 rfl len_f_offset_at (fun ds R X ⟨t, s, e, b, c, ed, F, ht, h1, h2, hk⟩ => ?_) h
  subst ed
  show T K _ (t_offset_at K E) [some (.d (.str t)), some (.d (.row s e b)), some (.d (.int c)), none, none] _ _ _
  unfold t_offset_at
  walk_at "xs"
  refine w_start F ?_
  walk_at "xs"
  refine ⟨_, _, _, rfl, _, rfl, ?_⟩
  refine t_seq (t_for (wi_rng2 ?_))
  walk_at "xs"
  refine w_start F ?_
  walk_at "xs"
  refine ⟨_, _, _, rfl, _, rfl, ?_⟩
  walk_at "xs"
  refine w_end F ?_
  walk_at "xs"
  refine ⟨_, _, _, rfl, ?_⟩
  walk_at "xs"
  refine ⟨s, e + 1, rfl, ⟨by omega, by omega, by omega, by omega⟩, ?_⟩
  have hlen : ((e : Int) + 1 - (s : Int)).toNat = e + 1 - s := by omega
  rw [hlen]
  refine ⟨fun i δ => ∃ (f : Nat) (x : Option Dx), s ≤ f ∧ f ≤ e ∧ (f < s + i ∨ f = s) ∧ (∀ o, s ≤ o → o < s + i → dis t s c f ≤ dis t s c o) ∧ (∀ o, s ≤ o → o < f → dis t s c f < dis t s c o) ∧ δ = [some (.d (.str t)), some (.d (.row s e b)), some (.d (.int c)), some (.d (.int (f : Int))), x], ⟨s, none, Nat.le_refl _, h1, .inr rfl, (fun o h h' => by omega), (fun o h h' => by omega), rfl⟩, ?_, ?_⟩
  · rintro i d δ hd ⟨f, x, f1, f2, f3, f4, f5, rfl⟩
    have hi : i < e + 1 - s := by
      have := (List.getElem?_eq_some_iff.mp hd).1
      rw [ran_len] at this
      exact this
    rw [ran_get hi] at hd
    cases hd
    have e1 : (s : Int) + (i : Int) = ((s + i : Nat) : Int) := by omega
    rw [e1]
    refine g_name ?_
    walk_at "xs"
    refine w_fn ?_
    walk_at "xs"
    refine ⟨t, s, e, b, s + i, rfl, F, ht, ?_⟩
    walk_at "xs"
    refine w_fn ?_
    walk_at "xs"
    refine ⟨t, s, e, b, f, rfl, F, ht, ?_⟩
    walk_at "xs"
    refine ⟨fun hb => ?_, fun hb => ?_⟩
    · have hb : dis t s c (s + i) < dis t s c f := of_decide_eq_true hb
      walk_at "xs"
      refine ⟨s + i, _, by omega, by omega, .inl (by omega), fun o o1 o2 => ?_, fun o o1 o2 => ?_, rfl⟩
      · rcases Nat.lt_or_ge o (s + i) with q | q
        · have := f4 o o1 q
          omega
        · obtain rfl : o = s + i := by omega
          exact Int.le_refl _
      · have := f4 o o1 o2
        omega
    · have hb : ¬ dis t s c (s + i) < dis t s c f := of_decide_eq_false hb
      walk_at "xs"
      refine ⟨f, _, f1, f2, f3.imp (fun q => by omega) id, fun o o1 o2 => ?_, f5, rfl⟩
      rcases Nat.lt_or_ge o (s + i) with q | q
      · exact f4 o o1 q
      · obtain rfl : o = s + i := by omega
        omega
  · rintro δ ⟨f, x, f1, f2, f3, f4, f5, rfl⟩
    rw [ran_len] at f4
    walk_at "xs"
    exact hk f ⟨f1, f2, fun o o1 o2 => f4 o o1 (by omega), f5⟩
def f_is_soft_end (K : PySem.W.Frag) : FP := fun ds R _ => ∃ (L : List R3) (k : Nat) (r : R3) (o : Int), ds = [.lst (L.map dR), .int k, .int o] ∧ RwF K ∧ L[k]? = some r ∧ R (.bl (r.2.2 && decide (o = r.2.1)))
abbrev sp_is_soft_end (K : PySem.W.Frag) : Sp := SpOf K (PF (f_is_soft_end K))
def t_is_soft_end (K : PySem.W.Frag) (E : XK) : TS := (tSeq (tAsg (tOp (rIxL K) (tVar 0) (tVar 1)) (gName 3))
  (tRet (tAndV (tFld K (tVar 3) "is_soft") (tOp rEq (tVar 2) (tFld K (tVar 3) "end")))))
theorem len_f_is_soft_end {K : PySem.W.Frag} : ∀ ds R X, f_is_soft_end K ds R X → ds.length = 3 := by
  rintro ds R X ⟨_, _, _, _, rfl, _⟩
  rfl
theorem len_is_soft_end {K : PySem.W.Frag} : ∀ vs H Q E, sp_is_soft_end K vs H Q E → vs.length = 3 := fun _ _ _ _ h => spOf_len (pf_len len_f_is_soft_end) h
theorem pure_is_soft_end {K : PySem.W.Frag} {vs : List V} {H : Hp} {Q : VK} {E : XK} (h : sp_is_soft_end K vs H Q E) : t_is_soft_end K E { nx := fun _ H' => Q .non H', rt := Q } (L2.start ["rows", "number", "offset", "row"] vs) H := by
  refine bodyP (ts := t_is_soft_end K) 3 1 rfl len_f_is_soft_end (fun ds R X ⟨L, k, r, o, ed, F, hr, hk⟩ => ?_) h
  subst ed
  show T K _ (t_is_soft_end K E) [some (.d (.lst (L.map dR))), some (.d (.int k)), some (.d (.int o)), none] _ _ _
  unfold t_is_soft_end
  have hrd : (L.map dR)[k]? = some (dR r) := by rw [List.getElem?_map, hr]; rfl
  walk_at "xs"
  refine rd_ixL (atI_nat hrd) ⟨_, rfl, ?_⟩
  walk_at "xs"
  refine w_soft F ?_
  walk_at "xs"
  refine ⟨_, _, _, rfl, _, rfl, ?_⟩
  refine ⟨fun hb => ?_, fun hb => ?_⟩
  · walk_at "xs"
    refine w_end F ?_
    walk_at "xs"
    refine ⟨_, _, _, rfl, ?_⟩
    walk_at "xs"
    rw [hb, Bool.true_and] at hk
    exact hk
  · rw [hb, Bool.false_and] at hk
    exact hk
end Cr

namespace Cr
open PySem L2
local macro_rules | `(tactic| walk_at "x") => `(tactic| first | with_reducible refine t_seq ?_ | with_reducible refine t_ret ?_ | with_reducible refine t_set ?_ | with_reducible refine t_drop ?_ | with_reducible refine t_if ?_ | with_reducible refine t_next ?_ | with_reducible refine t_raise ?_ | with_reducible refine t_asg ?_ | with_reducible refine t_retN ?_ | with_reducible refine w_op ?_ | ((with_reducible refine' w_var ?h ?_); (case h => rfl)) | ((with_reducible refine' w_own ?h ?_); (case h => rfl)) | with_reducible refine w_int ?_ | ((with_reducible refine' w_k ?h ?_); (case h => decide +kernel)) | with_reducible refine w_bl ?_ | with_reducible refine w_non ?_ | with_reducible refine w_if ?_ | with_reducible refine w_andV ?_ | with_reducible refine w_orV ?_ | with_reducible refine w_notV ?_ | with_reducible refine w_tup ?_ | with_reducible refine w_lst ?_ | with_reducible refine w_cb ?_ | with_reducible refine w_chain ?_ | with_reducible refine w_slS ?_ | with_reducible refine w_slL ?_ | with_reducible refine w_find1 ?_ | with_reducible refine w_find2 ?_ | with_reducible refine w_rfind1 ?_ | with_reducible refine w_rfind3 ?_ | with_reducible refine w_neg ?_ | with_reducible refine w_ref ?_ | with_reducible refine w_ty ?_ | with_reducible refine wt_test ?_ | with_reducible refine wt_B ?_ | with_reducible refine wt_and ?_ | with_reducible refine wt_or ?_ | with_reducible refine wt_not ?_ | with_reducible refine wt_yes ?_ | with_reducible refine wd_nil ?_ | with_reducible refine wd_cons ?_ | with_reducible refine wa_nil ?_ | with_reducible refine wa_cons ?_ | with_reducible refine wo_none ?_ | with_reducible refine wo_some ?_ | with_reducible refine rd_I0i ?_ | with_reducible refine rd_I0b ?_ | with_reducible refine rd_eqI ?_ | with_reducible refine rd_neI ?_ | with_reducible refine rd_eqS ?_ | with_reducible refine rd_neS ?_ | with_reducible refine rd_isN ?_ | with_reducible refine rd_notN ?_ | with_reducible refine rd_inSign ?_ | with_reducible refine cd_lenL ?_ | ((with_reducible refine' cd_lenS ?h ?_); (case h => first | assumption | omega)) | with_reducible refine cd_lenT ?_ | with_reducible refine cd_lenR ?_ | with_reducible refine cd_abs ?_ | with_reducible refine cd_max2 ?_ | with_reducible refine cd_min2 ?_ | with_reducible refine cd_intB ?_ | with_reducible refine cd_ord ?_ | with_reducible refine g_name ?_ | with_reducible refine ⟨_, rfl, ?_⟩ | with_reducible refine rd_leS ?_)
local macro_rules | `(tactic| walk_at "xs") => `(tactic| repeat (first | with_reducible refine t_seq ?_ | with_reducible refine t_ret ?_ | with_reducible refine t_set ?_ | with_reducible refine t_drop ?_ | with_reducible refine t_if ?_ | with_reducible refine t_next ?_ | with_reducible refine t_raise ?_ | with_reducible refine t_asg ?_ | with_reducible refine t_retN ?_ | with_reducible refine w_op ?_ | ((with_reducible refine' w_var ?h ?_); (case h => rfl)) | ((with_reducible refine' w_own ?h ?_); (case h => rfl)) | with_reducible refine w_int ?_ | ((with_reducible refine' w_k ?h ?_); (case h => decide +kernel)) | with_reducible refine w_bl ?_ | with_reducible refine w_non ?_ | with_reducible refine w_if ?_ | with_reducible refine w_andV ?_ | with_reducible refine w_orV ?_ | with_reducible refine w_notV ?_ | with_reducible refine w_tup ?_ | with_reducible refine w_lst ?_ | with_reducible refine w_cb ?_ | with_reducible refine w_chain ?_ | with_reducible refine w_slS ?_ | with_reducible refine w_slL ?_ | with_reducible refine w_find1 ?_ | with_reducible refine w_find2 ?_ | with_reducible refine w_rfind1 ?_ | with_reducible refine w_rfind3 ?_ | with_reducible refine w_neg ?_ | with_reducible refine w_ref ?_ | with_reducible refine w_ty ?_ | with_reducible refine wt_test ?_ | with_reducible refine wt_B ?_ | with_reducible refine wt_and ?_ | with_reducible refine wt_or ?_ | with_reducible refine wt_not ?_ | with_reducible refine wt_yes ?_ | with_reducible refine wd_nil ?_ | with_reducible refine wd_cons ?_ | with_reducible refine wa_nil ?_ | with_reducible refine wa_cons ?_ | with_reducible refine wo_none ?_ | with_reducible refine wo_some ?_ | with_reducible refine rd_I0i ?_ | with_reducible refine rd_I0b ?_ | with_reducible refine rd_eqI ?_ | with_reducible refine rd_neI ?_ | with_reducible refine rd_eqS ?_ | with_reducible refine rd_neS ?_ | with_reducible refine rd_isN ?_ | with_reducible refine rd_notN ?_ | with_reducible refine rd_inSign ?_ | with_reducible refine cd_lenL ?_ | ((with_reducible refine' cd_lenS ?h ?_); (case h => first | assumption | omega)) | with_reducible refine cd_lenT ?_ | with_reducible refine cd_lenR ?_ | with_reducible refine cd_abs ?_ | with_reducible refine cd_max2 ?_ | with_reducible refine cd_min2 ?_ | with_reducible refine cd_intB ?_ | with_reducible refine cd_ord ?_ | with_reducible refine g_name ?_ | with_reducible refine ⟨_, rfl, ?_⟩ | with_reducible refine rd_leS ?_ | simp only [List.set_cons_succ, List.set_cons_zero]))
theorem okW {t : List Nat} (it : isText t = true) {w : Int} (iw : 2 ≤ w ∧ w ≤ 200) : ∃ v : Nat, w = (v : Int) ∧ 2 ≤ v ∧ v ≤ 200 := ⟨w.toNat, by omega, by omega, by omega⟩
def placeD (L : List R3) (t : List Nat) (o : Nat) (b : Bool) : Da := .tup [.int ((rowAt L o b : Nat) : Int), .int ((colOf t (L.getD (rowAt L o b) (0, 0, false)).1 o : Nat) : Int)]
def f_place (K : PySem.W.Frag) : FP := fun ds R X => ∃ (t : List Nat) (w o : Int) (y : Da), ds = [.str t, .int w, .int o, y] ∧ RwF K ∧ t.length ≤ 16000000 ∧ (isText t = false → X "BadText") ∧ (isText t = true → ¬ (2 ≤ w ∧ w ≤ 200) → X "BadSize") ∧
  (isText t = true → 2 ≤ w ∧ w ≤ 200 → ¬ (0 ≤ o ∧ o ≤ t.length) → X "BadPlace") ∧ (isText t = true → 2 ≤ w ∧ w ≤ 200 → 0 ≤ o ∧ o ≤ t.length → ∃ b, y = .bl b ∧ R (placeD (rowsW w.toNat t) t o.toNat b))
abbrev sp_place (K : PySem.W.Frag) : Sp := SpOf K (PF (f_place K))
def t_place (K : PySem.W.Frag) (E : XK) : TS := (tSeq (tDrop (tCall (sp_look_text K) [] E (tCons (tVar 0) tNil)))
  (tSeq (tDrop (tCall (sp_look_width K) [] E (tCons (tVar 1) tNil)))
  (tSeq (tDrop (tCall (sp_look_offset K) [] E (tCons (tVar 0) (tCons (tVar 2) tNil))))
  (tSeq (tAsg (tCall (sp_rows_of K) [] L2.E0 (tCons (tVar 0) (tCons (tVar 1) tNil))) (gName 4))
  (tSeq (tAsg (tCall (sp_row_at K) [] L2.E0 (tCons (tVar 4) (tCons (tVar 2) (tCons (tVar 3) tNil)))) (gName 5))
  (tRet (tTup (tCons (tVar 5) (tCons (tCall (sp_column_of K) [] L2.E0 (tCons (tVar 0) (tCons (tOp (rIxL K) (tVar 4) (tVar 5)) (tCons (tVar 2) tNil)))) tNil)))))))))
theorem len_f_place {K : PySem.W.Frag} : ∀ ds R X, f_place K ds R X → ds.length = 4 := by
  rintro ds R X ⟨_, _, _, _, rfl, _⟩
  rfl
theorem len_place {K : PySem.W.Frag} : ∀ vs H Q E, sp_place K vs H Q E → vs.length = 4 := fun _ _ _ _ h => spOf_len (pf_len len_f_place) h
theorem pure_place {K : PySem.W.Frag} {vs : List V} {H : Hp} {Q : VK} {E : XK} (h : sp_place K vs H Q E) : t_place K E { nx := fun _ H' => Q .non H', rt := Q } (L2.start ["text", "width", "offset", "is_back", "rows", "number"] vs) H := by
  refine bodyP (ts := t_place K) 4 2 rfl len_f_place (fun ds R X ⟨t, w, o, y, e, F, ht, h1, h2, h3, h4⟩ => ?_) h
  subst e
  show T K _ (t_place K E) [some (.d (.str t)), some (.d (.int w)), some (.d (.int o)), some (.d y), none, none] _ _ _
  unfold t_place
  walk_at "xs"
  refine w_fnX (fun _ _ _ _ h => h) ?_
  walk_at "xs"
  refine ⟨t, rfl, ht, fun it => ?_, h1⟩
  have tl := text_len it
  walk_at "xs"
  refine w_fnX (fun _ _ _ _ h => h) ?_
  walk_at "xs"
  refine ⟨w, rfl, fun iw => ?_, h2 it⟩
  walk_at "xs"
  refine w_fnX (fun _ _ _ _ h => h) ?_
  walk_at "xs"
  refine ⟨t, o, rfl, ht, fun io => ?_, h3 it iw⟩
  obtain ⟨b, rfl, hk⟩ := h4 it iw io
  obtain ⟨v, rfl, v2, _⟩ := okW it iw
  obtain ⟨u, rfl⟩ : ∃ u : Nat, o = (u : Int) := ⟨o.toNat, by omega⟩
  rw [Int.toNat_natCast, Int.toNat_natCast] at hk
  have rl := rowsW_len v2 t
  have ch := ch_rowsW v2 t
  walk_at "xs"
  refine w_fn ?_
  walk_at "xs"
  refine ⟨t, v, rfl, F, tl, v2, _, rfl, ?_⟩
  generalize rowsW v t = L at hk rl ch ⊢
  have hlt := rowAt_lt ch.ne u b
  obtain ⟨r, hr⟩ : ∃ r, L[rowAt L u b]? = some r := ⟨_, List.getElem?_eq_getElem hlt⟩
  have hrd : (L.map dR)[rowAt L u b]? = some (dR r) := by rw [List.getElem?_map, hr]; rfl
  have hg : L.getD (rowAt L u b) (0, 0, false) = r := by rw [List.getD_eq_getElem?_getD, hr]; rfl
  unfold placeD at hk
  rw [hg] at hk
  walk_at "xs"
  refine w_fn ?_
  walk_at "xs"
  refine ⟨L, u, b, rfl, F, ch.ne, by omega, ?_⟩
  walk_at "xs"
  refine w_fn ?_
  walk_at "xs"
  refine rd_ixL (atI_nat hrd) ⟨_, rfl, ?_⟩
  walk_at "xs"
  refine ⟨t, r.1, r.2.1, r.2.2, u, rfl, F, tl, ?_⟩
  walk_at "xs"
  exact ⟨by show 2 ≤ 16000000; decide, hk⟩
def nearD (r : R3) (f : Nat) : Da := .tup [.int (f : Int), .bl (r.2.2 && decide (f = r.2.1))]
def f_nearest (K : PySem.W.Frag) : FP := fun ds R X => ∃ (t : List Nat) (w n c : Int), ds = [.str t, .int w, .int n, .int c] ∧ RwF K ∧ t.length ≤ 16000000 ∧ (isText t = false → X "BadText") ∧ (isText t = true → ¬ (2 ≤ w ∧ w ≤ 200) → X "BadSize") ∧
  (isText t = true → 2 ≤ w ∧ w ≤ 200 → ¬ (0 ≤ n ∧ n < (rowsW w.toNat t).length ∧ 0 ≤ c) → X "BadPlace") ∧
  (isText t = true → 2 ≤ w ∧ w ≤ 200 → 0 ≤ n → 0 ≤ c → ∀ r f, (rowsW w.toNat t)[n.toNat]? = some r → Near t r.1 r.2.1 c f → R (nearD r f))
abbrev sp_nearest (K : PySem.W.Frag) : Sp := SpOf K (PF (f_nearest K))
def t_nearest (K : PySem.W.Frag) (E : XK) : TS := (tSeq (tDrop (tCall (sp_look_text K) [] E (tCons (tVar 0) tNil)))
  (tSeq (tDrop (tCall (sp_look_width K) [] E (tCons (tVar 1) tNil)))
  (tSeq (tAsg (tCall (sp_rows_of K) [] L2.E0 (tCons (tVar 0) (tCons (tVar 1) tNil))) (gName 4))
  (tSeq (tIfS (tOr (tNot (tTest (tChain rLe' rLt' (tC (.int 0)) (tVar 2) (tCB (rLen K) (tCons (tVar 4) tNil))))) (tTest (tOp rLt' (tVar 3) (tC (.int 0))))) (tRz E (He.ga K "BadPlace")) tNext)
  (tSeq (tAsg (tCall (sp_offset_at K) [] L2.E0 (tCons (tVar 0) (tCons (tOp (rIxL K) (tVar 4) (tVar 2)) (tCons (tVar 3) tNil)))) (gName 5))
  (tRet (tTup (tCons (tVar 5) (tCons (tCall (sp_is_soft_end K) [] L2.E0 (tCons (tVar 4) (tCons (tVar 2) (tCons (tVar 5) tNil)))) tNil)))))))))
theorem len_f_nearest {K : PySem.W.Frag} : ∀ ds R X, f_nearest K ds R X → ds.length = 4 := by
  rintro ds R X ⟨_, _, _, _, rfl, _⟩
  rfl
theorem len_nearest {K : PySem.W.Frag} : ∀ vs H Q E, sp_nearest K vs H Q E → vs.length = 4 := fun _ _ _ _ h => spOf_len (pf_len len_f_nearest) h
theorem pure_nearest {K : PySem.W.Frag} {vs : List V} {H : Hp} {Q : VK} {E : XK} (h : sp_nearest K vs H Q E) : t_nearest K E { nx := fun _ H' => Q .non H', rt := Q } (L2.start ["text", "width", "number", "column", "rows", "offset"] vs) H := by
  refine bodyP (ts := t_nearest K) 4 2 rfl len_f_nearest (fun ds R X ⟨t, w, n, c, e, F, ht, h1, h2, h3, h4⟩ => ?_) h
  subst e
  show T K _ (t_nearest K E) [some (.d (.str t)), some (.d (.int w)), some (.d (.int n)), some (.d (.int c)), none, none] _ _ _
  unfold t_nearest
  walk_at "xs"
  refine w_fnX (fun _ _ _ _ h => h) ?_
  walk_at "xs"
  refine ⟨t, rfl, ht, fun it => ?_, h1⟩
  have tl := text_len it
  walk_at "xs"
  refine w_fnX (fun _ _ _ _ h => h) ?_
  walk_at "xs"
  refine ⟨w, rfl, fun iw => ?_, h2 it⟩
  have h3 := h3 it iw
  have h4 := h4 it iw
  obtain ⟨v, rfl, v2, _⟩ := okW it iw
  rw [Int.toNat_natCast] at h3 h4
  have rl := rowsW_len v2 t
  have ch := ch_rowsW v2 t
  walk_at "xs"
  refine w_fn ?_
  walk_at "xs"
  refine ⟨t, v, rfl, F, tl, v2, _, rfl, ?_⟩
  generalize rowsW v t = L at h3 h4 rl ch ⊢
  refine t_seq (t_if (WT.imp (P := fun q δ' => (q = false ↔ (0 ≤ n ∧ n < L.length ∧ 0 ≤ c)) ∧ δ' = [some (.d (.str t)), some (.d (.int v)), some (.d (.int n)), some (.d (.int c)), some (.d (.lst (L.map dR))), none]) ?_ ?_))
  · show WT K _ _ [some (.d (.str t)), some (.d (.int v)), some (.d (.int n)), some (.d (.int c)), some (.d (.lst (L.map dR))), none] _ _
    walk_at "xs"
    refine ⟨fun hb => ?_, fun hb => ?_⟩
    · have hb := of_decide_eq_true hb
      walk_at "xs"
      rw [List.length_map]
      refine ⟨fun hc => ⟨?_, trivial⟩, fun hc => ?_⟩
      · have : ¬ n < (L.length : Int) := by simpa using hc
        exact ⟨(fun z => nomatch z), fun z => by omega⟩
      · have : n < (L.length : Int) := by simpa using hc
        walk_at "xs"
        refine ⟨?_, trivial⟩
        rw [decide_eq_false_iff_not]
        omega
    · have hb := of_decide_eq_false hb
      refine ⟨_, rfl, fun _ => ⟨?_, trivial⟩, fun z => nomatch z⟩
      exact ⟨(fun z => nomatch z), fun z => by omega⟩
  rintro q δ' ⟨hq, rfl⟩
  refine ⟨fun hb => ?_, fun hb => ?_⟩
  · exact t_raise (h3 fun z => by rw [hq.mpr z] at hb; exact nomatch hb)
  obtain ⟨n0, n1, c0⟩ := hq.mp hb
  obtain ⟨m, rfl⟩ : ∃ m : Nat, n = (m : Int) := ⟨n.toNat, by omega⟩
  have hlt : m < L.length := by omega
  obtain ⟨r, hr⟩ : ∃ r, L[m]? = some r := ⟨_, List.getElem?_eq_getElem hlt⟩
  have hrd : (L.map dR)[m]? = some (dR r) := by rw [List.getElem?_map, hr]; rfl
  have hm := ch.mem r (List.mem_of_getElem? hr)
  walk_at "xs"
  refine w_fn ?_
  walk_at "xs"
  refine rd_ixL (atI_nat hrd) ⟨_, rfl, ?_⟩
  walk_at "xs"
  refine ⟨t, r.1, r.2.1, r.2.2, c, rfl, F, tl, hm.2.1, hm.2.2, fun f nf => ?_⟩
  have hk := h4 n0 c0 r f (by rw [Int.toNat_natCast]; exact hr) nf
  walk_at "xs"
  refine w_fn ?_
  walk_at "xs"
  refine ⟨L, m, r, f, rfl, F, hr, ?_⟩
  walk_at "xs"
  have e1 : decide ((f : Int) = (r.2.1 : Int)) = decide (f = r.2.1) := decide_eq_decide.mpr (by omega)
  rw [e1]
  exact ⟨by show 2 ≤ 16000000; decide, hk⟩
theorem lv_place (L : List R3) (t : List Nat) (o : Nat) (b : Bool) : lv 1 (placeD L t o b) := lv_tup fun d hd => by
  simp only [List.mem_cons, List.not_mem_nil, or_false] at hd
  rcases hd with rfl | rfl <;> trivial
def bothD (L : List R3) (t : List Nat) (o : Nat) : Da := if eqd (placeD L t o true) (placeD L t o false) = true then .lst [placeD L t o true] else .lst [placeD L t o true, placeD L t o false]
def f_both_places (K : PySem.W.Frag) : FP := fun ds R X => ∃ (t : List Nat) (w o : Int), ds = [.str t, .int w, .int o] ∧ RwF K ∧ t.length ≤ 16000000 ∧ (isText t = false → X "BadText") ∧ (isText t = true → ¬ (2 ≤ w ∧ w ≤ 200) → X "BadSize") ∧
  (isText t = true → 2 ≤ w ∧ w ≤ 200 → ¬ (0 ≤ o ∧ o ≤ t.length) → X "BadPlace") ∧ (isText t = true → 2 ≤ w ∧ w ≤ 200 → 0 ≤ o ∧ o ≤ t.length → R (bothD (rowsW w.toNat t) t o.toNat))
abbrev sp_both_places (K : PySem.W.Frag) : Sp := SpOf K (PF (f_both_places K))
def t_both_places (K : PySem.W.Frag) (E : XK) : TS := (tSeq (tAsg (tCall (sp_place K) [] E (tCons (tVar 0) (tCons (tVar 1) (tCons (tVar 2) (tCons (tC (.bl true)) tNil))))) (gName 3))
  (tSeq (tAsg (tCall (sp_place K) [] E (tCons (tVar 0) (tCons (tVar 1) (tCons (tVar 2) (tCons (tC (.bl false)) tNil))))) (gName 4))
  (tRet (tIf (tTest (tOp (rEqD K) (tVar 3) (tVar 4))) (tLst (tCons (tVar 3) tNil)) (tLst (tCons (tVar 3) (tCons (tVar 4) tNil)))))))
theorem len_f_both_places {K : PySem.W.Frag} : ∀ ds R X, f_both_places K ds R X → ds.length = 3 := by
  rintro ds R X ⟨_, _, _, rfl, _⟩
  rfl
theorem len_both_places {K : PySem.W.Frag} : ∀ vs H Q E, sp_both_places K vs H Q E → vs.length = 3 := fun _ _ _ _ h => spOf_len (pf_len len_f_both_places) h
theorem pure_both_places {K : PySem.W.Frag} {vs : List V} {H : Hp} {Q : VK} {E : XK} (h : sp_both_places K vs H Q E) : t_both_places K E { nx := fun _ H' => Q .non H', rt := Q } (L2.start ["text", "width", "offset", "first", "last"] vs) H := by
  refine bodyP (ts := t_both_places K) 3 2 rfl len_f_both_places (fun ds R X ⟨t, w, o, e, F, ht, h1, h2, h3, h4⟩ => ?_) h
  subst e
  show T K _ (t_both_places K E) [some (.d (.str t)), some (.d (.int w)), some (.d (.int o)), none, none] _ _ _
  unfold t_both_places
  walk_at "xs"
  refine w_fnX (fun _ _ _ _ h => h) ?_
  walk_at "xs"
  refine ⟨t, w, o, .bl true, rfl, F, ht, h1, h2, h3, fun it iw io => ⟨true, rfl, ?_⟩⟩
  have hk := h4 it iw io
  walk_at "xs"
  refine w_fnX (fun _ _ _ _ h => h) ?_
  walk_at "xs"
  refine ⟨t, w, o, .bl false, rfl, F, ht, h1, h2, h3, fun it iw io => ⟨false, rfl, ?_⟩⟩
  generalize rowsW w.toNat t = L at hk ⊢
  unfold bothD at hk
  walk_at "xs"
  refine rd_eqD 1 1 (lv_place _ _ _ _) (lv_place _ _ _ _) ⟨_, rfl, fun hb => ?_, fun hb => ?_⟩
  · rw [if_pos hb] at hk
    walk_at "xs"
    exact ⟨by show 1 ≤ 16000000; decide, hk⟩
  · rw [if_neg (by rw [hb]; decide)] at hk
    walk_at "xs"
    exact ⟨by show 2 ≤ 16000000; decide, hk⟩
/-! ### the law's own places -/
def f__law_row (K : PySem.W.Frag) : FP := fun ds R _ => ∃ (L : List R3) (n o : Nat) (b : Bool), ds = [.lst (L.map dT), .int o, .bl b] ∧ L.length ≤ 3000 ∧ Ch 0 L n ∧ o ≤ n ∧ R (.int ((rowAt L o b : Nat) : Int))
abbrev sp__law_row (K : PySem.W.Frag) : Sp := SpOf K (PF (f__law_row K))
def t__law_row (K : PySem.W.Frag) (E : XK) : TS := (tSeq (tAsg (tLc (iRng1 (tCons (tCB (rLen K) (tCons (tVar 0) tNil)) tNil)) (gName 4) (tTest (tChain rLe' rLe' (tOp (rIxT K) (tOp (rIxL K) (tVar 0) (tVar 4)) (tC (.int 0))) (tVar 1) (tOp (rIxT K) (tOp (rIxL K) (tVar 0) (tVar 4)) (tC (.int 1))))) (tVar 4) [4]) (gName 3))
  (tRet (tIf (tB (tVar 2)) (tOp (rIxL K) (tVar 3) (tC (.int 0))) (tOp (rIxL K) (tVar 3) (tUn (rU fun i => .int (-i)) (tC (.int 1)))))))
theorem len_f__law_row {K : PySem.W.Frag} : ∀ ds R X, f__law_row K ds R X → ds.length = 3 := by
  rintro ds R X ⟨_, _, _, _, rfl, _⟩
  rfl
theorem len__law_row {K : PySem.W.Frag} : ∀ vs H Q E, sp__law_row K vs H Q E → vs.length = 3 := fun _ _ _ _ h => spOf_len (pf_len len_f__law_row) h
def inRow (L : List R3) (o : Nat) (k : Nat) : Bool := match L[k]? with
  | some r => decide (r.1 ≤ o ∧ o ≤ r.2.1)
  | none => false
theorem range_head {q : Nat → Bool} {n k : Nat} (hk : k < n) (h1 : q k = true) (h2 : ∀ j, j < k → q j = false) : ((List.range n).filter q).head? = some k := by
  have e : List.range n = List.range k ++ k :: List.range' (k + 1) (n - k - 1) := by
    rw [List.range_eq_range', List.range_eq_range']
    have : n = k + (1 + (n - k - 1)) := by omega
    conv => lhs; rw [this, ← List.range'_append_1, ← List.range'_append_1]
    simp
  rw [e, List.filter_append, List.filter_cons, if_pos h1]
  have : (List.range k).filter q = [] := List.filter_eq_nil_iff.mpr fun j hj => by
    rw [h2 j (List.mem_range.mp hj)]
    decide
  rw [this]
  rfl
theorem range_last {q : Nat → Bool} {n k : Nat} (hk : k < n) (h1 : q k = true) (h2 : ∀ j, k < j → j < n → q j = false) : ((List.range n).filter q).getLast? = some k := by
  have e : List.range n = List.range k ++ k :: List.range' (k + 1) (n - k - 1) := by
    rw [List.range_eq_range', List.range_eq_range']
    have : n = k + (1 + (n - k - 1)) := by omega
    conv => lhs; rw [this, ← List.range'_append_1, ← List.range'_append_1]
    simp
  rw [e, List.filter_append, List.filter_cons, if_pos h1]
  have : (List.range' (k + 1) (n - k - 1)).filter q = [] := List.filter_eq_nil_iff.mpr fun j hj => by
    have := List.mem_range'_1.mp hj
    rw [h2 j (by omega) (by omega)]
    decide
  rw [this]
  simp
theorem atI_lastN {α : Type} {l : List α} {a : α} (h : l.getLast? = some a) : atI l (-1) = some a := by
  obtain ⟨r, rfl⟩ : ∃ r, l = r ++ [a] := List.getLast?_eq_some_iff.mp h
  simp only [atI, ixN]
  rw [if_neg (by omega), if_pos (by simp only [List.length_append, List.length_singleton]; omega)]
  have : (-1 + ((r ++ [a]).length : Int)).toNat = r.length := by simp only [List.length_append, List.length_singleton]; omega
  show (r ++ [a])[(-1 + ((r ++ [a]).length : Int)).toNat]? = _
  rw [this]
  simp
theorem atI_head {α : Type} {l : List α} {a : α} (h : l.head? = some a) : atI l 0 = some a := by
  cases l with
  | nil => exact nomatch h
  | cons x r =>
    cases h
    exact atI_nat (i := 0) rfl
theorem pure__law_row {K : PySem.W.Frag} {vs : List V} {H : Hp} {Q : VK} {E : XK} (h : sp__law_row K vs H Q E) : t__law_row K E { nx := fun _ H' => Q .non H', rt := Q } (L2.start ["rows", "offset", "is_back", "some", "k"] vs) H := by
  refine bodyP (ts := t__law_row K) 3 2 rfl len_f__law_row (fun ds R X ⟨L, n, o, b, ed, hl, ch, ho, hk⟩ => ?_) h
  subst ed
  show T K _ (t__law_row K E) [some (.d (.lst (L.map dT))), some (.d (.int o)), some (.d (.bl b)), none, none] _ _ _
  unfold t__law_row
  walk_at "xs"
  refine w_lcP (kI (inRow L o)) (wi_rng1 ?_)
  walk_at "xs"
  rw [List.length_map]
  refine ⟨by omega, by omega, noneAt1 rfl, by rw [ran_len]; omega, fun k d hd => ?_, ?_⟩
  · have hkl : k < L.length := by
      have := (List.getElem?_eq_some_iff.mp hd).1
      rw [ran_len] at this
      omega
    rw [ran_get (by omega), Int.zero_add] at hd
    cases hd
    obtain ⟨r, hr⟩ : ∃ r, L[k]? = some r := ⟨_, List.getElem?_eq_getElem hkl⟩
    have hrd : (L.map dT)[k]? = some (dT r) := by rw [List.getElem?_map, hr]; rfl
    have hin : inRow L o k = decide (r.1 ≤ o ∧ o ≤ r.2.1) := by unfold inRow; rw [hr]
    refine gv_name (by simp) ?_
    walk_at "xs"
    refine rd_ixL (atI_nat hrd) ?_
    walk_at "xs"
    refine rd_ixT (d := .int r.1) rfl ?_
    walk_at "xs"
    refine ⟨fun hb => ?_, fun hb => ?_⟩
    · have hb := of_decide_eq_true hb
      walk_at "xs"
      refine rd_ixL (atI_nat hrd) ?_
      walk_at "xs"
      refine rd_ixT (d := .int r.2.1) rfl ?_
      walk_at "xs"
      refine ⟨fun hc => ?_, fun hc => ?_⟩
      · have hc := of_decide_eq_true hc
        walk_at "xs"
        exact ⟨kI_t (by rw [hin, decide_eq_true]; omega), rfl⟩
      · have hc := of_decide_eq_false hc
        exact ⟨kI_f (by rw [hin, decide_eq_false]; omega), rfl⟩
    · have hb := of_decide_eq_false hb
      refine ⟨_, rfl, (fun z => nomatch z), fun _ => ⟨kI_f (by rw [hin, decide_eq_false]; omega), rfl⟩⟩
  rw [Int.toNat_natCast, ran_map, filter_ints]
  walk_at "xs"
  refine ⟨fun hb => ?_, fun hb => ?_⟩
  · subst hb
    have a := ch.isAt ho true
    obtain ⟨r, hr⟩ : ∃ r, L[rowAt L o true]? = some r := ⟨_, List.getElem?_eq_getElem a.lt⟩
    have h := ch.holds (Nat.zero_le _) a r hr
    walk_at "xs"
    refine rd_ixL (d := .int ((rowAt L o true : Nat) : Int)) (atI_head ?_) hk
    rw [List.head?_map, range_head a.lt (by unfold inRow; rw [hr]; exact decide_eq_true h) fun j hj => ?_]
    · rfl
    · unfold inRow
      cases e : L[j]? with
      | none => rfl
      | some x => exact decide_eq_false fun z => a.before hj e z.2
  · subst hb
    have a := ch.isAt ho false
    obtain ⟨r, hr⟩ : ∃ r, L[rowAt L o false]? = some r := ⟨_, List.getElem?_eq_getElem a.lt⟩
    have h := ch.holds (Nat.zero_le _) a r hr
    walk_at "xs"
    refine rd_ixL (d := .int ((rowAt L o false : Nat) : Int)) (atI_lastN ?_) hk
    rw [List.getLast?_map, range_last a.lt (by unfold inRow; rw [hr]; exact decide_eq_true h) fun j hj _ => ?_]
    · rfl
    · unfold inRow
      cases e : L[j]? with
      | none => rfl
      | some x => exact decide_eq_false fun z => ch.after a hj x e z.1
def f__law_place (K : PySem.W.Frag) : FP := fun ds R _ => ∃ (t : List Nat) (L : List R3) (o : Nat) (b : Bool), ds = [.str t, .lst (L.map dT), .int o, .bl b] ∧ t.length ≤ 2000 ∧ L.length ≤ 3000 ∧ Ch 0 L t.length ∧ o ≤ t.length ∧ R (placeD L t o b)
abbrev sp__law_place (K : PySem.W.Frag) : Sp := SpOf K (PF (f__law_place K))
def t__law_place (K : PySem.W.Frag) (E : XK) : TS := (tSeq (tAsg (tCall (sp__law_row K) [] L2.E0 (tCons (tVar 1) (tCons (tVar 2) (tCons (tVar 3) tNil)))) (gName 4))
  (tRet (tTup (tCons (tVar 4) (tCons (tCall (sp__law_wide K) [] L2.E0 (tCons (tSl rSlS (tVar 0) (tPart (tOp (rIxT K) (tOp (rIxL K) (tVar 1) (tVar 4)) (tC (.int 0)))) (tPart (tVar 2))) tNil)) tNil)))))
theorem len_f__law_place {K : PySem.W.Frag} : ∀ ds R X, f__law_place K ds R X → ds.length = 4 := by
  rintro ds R X ⟨_, _, _, _, rfl, _⟩
  rfl
theorem len__law_place {K : PySem.W.Frag} : ∀ vs H Q E, sp__law_place K vs H Q E → vs.length = 4 := fun _ _ _ _ h => spOf_len (pf_len len_f__law_place) h
theorem pure__law_place {K : PySem.W.Frag} {vs : List V} {H : Hp} {Q : VK} {E : XK} (h : sp__law_place K vs H Q E) : t__law_place K E { nx := fun _ H' => Q .non H', rt := Q } (L2.start ["text", "rows", "offset", "is_back", "number"] vs) H := by
  refine bodyP (ts := t__law_place K) 4 1 rfl len_f__law_place (fun ds R X ⟨t, L, o, b, ed, ht, hl, ch, ho, hk⟩ => ?_) h
  subst ed
  show T K _ (t__law_place K E) [some (.d (.str t)), some (.d (.lst (L.map dT))), some (.d (.int o)), some (.d (.bl b)), none] _ _ _
  unfold t__law_place
  walk_at "xs"
  refine w_fn ?_
  walk_at "xs"
  refine ⟨L, t.length, o, b, rfl, hl, ch, ho, ?_⟩
  have hlt := rowAt_lt ch.ne o b
  obtain ⟨r, hr⟩ : ∃ r, L[rowAt L o b]? = some r := ⟨_, List.getElem?_eq_getElem hlt⟩
  have hrd : (L.map dT)[rowAt L o b]? = some (dT r) := by rw [List.getElem?_map, hr]; rfl
  have hg : L.getD (rowAt L o b) (0, 0, false) = r := by rw [List.getD_eq_getElem?_getD, hr]; rfl
  unfold placeD at hk
  rw [hg] at hk
  walk_at "xs"
  refine w_fn ?_
  walk_at "xs"
  refine ⟨by omega, ?_⟩
  walk_at "xs"
  refine rd_ixL (atI_nat hrd) ?_
  walk_at "xs"
  refine rd_ixT (d := .int r.1) rfl ⟨_, rfl, ?_⟩
  walk_at "xs"
  rw [cut_nat]
  refine ⟨_, rfl, by rw [List.length_take, List.length_drop]; omega, ?_⟩
  walk_at "xs"
  exact ⟨by show 2 ≤ 16000000; decide, hk⟩
def f__law_near (K : PySem.W.Frag) : FP := fun ds R _ => ∃ (t : List Nat) (r : R3) (c : Int), ds = [.str t, dT r, .int c] ∧ t.length ≤ 2000 ∧ r.1 ≤ r.2.1 ∧ r.2.1 ≤ t.length ∧ ∀ f, Near t r.1 r.2.1 c f → R (.int ((f : Nat) : Int))
abbrev sp__law_near (K : PySem.W.Frag) : Sp := SpOf K (PF (f__law_near K))
def t__law_near (K : PySem.W.Frag) (E : XK) : TS := (tSeq (tAsg (tLc (iRng2 (tCons (tOp (rIxT K) (tVar 1) (tC (.int 0))) (tCons (tOp rPlus (tOp (rIxT K) (tVar 1) (tC (.int 1))) (tC (.int 1))) tNil))) (gName 4) tYes (tTup (tCons (tCB rAbs (tCons (tOp rMinus (tCall (sp__law_wide K) [] L2.E0 (tCons (tSl rSlS (tVar 0) (tPart (tOp (rIxT K) (tVar 1) (tC (.int 0)))) (tPart (tVar 4))) tNil)) (tVar 2)) tNil)) (tCons (tVar 4) tNil))) [4]) (gName 3))
  (tRet (tOp (rIxT K) (tCB (rMinP K) (tCons (tVar 3) tNil)) (tC (.int 1)))))
theorem len_f__law_near {K : PySem.W.Frag} : ∀ ds R X, f__law_near K ds R X → ds.length = 3 := by
  rintro ds R X ⟨_, _, _, rfl, _⟩
  rfl
theorem len__law_near {K : PySem.W.Frag} : ∀ vs H Q E, sp__law_near K vs H Q E → vs.length = 3 := fun _ _ _ _ h => spOf_len (pf_len len_f__law_near) h
def nearP (t : List Nat) (s : Nat) (c : Int) (k : Nat) : Int × Int := (dis t s c (s + k), ((s + k : Nat) : Int))
def nearO (t : List Nat) (s : Nat) (c : Int) : Da → Option Da
  | .int i => some (dPair (dis t s c i.toNat, i))
  | _ => none
theorem dis_nonneg (t : List Nat) (s : Nat) (c : Int) (o : Nat) : 0 ≤ dis t s c o := by
  unfold dis
  split <;> omega
theorem pure__law_near {K : PySem.W.Frag} {vs : List V} {H : Hp} {Q : VK} {E : XK} (h : sp__law_near K vs H Q E) : t__law_near K E { nx := fun _ H' => Q .non H', rt := Q } (L2.start ["text", "row", "column", "some", "offset"] vs) H := by
  refine bodyP (ts := t__law_near K) 3 2 rfl len_f__law_near (fun ds R X ⟨t, r, c, ed, ht, h1, h2, hk⟩ => ?_) h
  subst ed
  obtain ⟨s, e, b⟩ := r
  simp only at h1 h2 hk
  show T K _ (t__law_near K E) [some (.d (.str t)), some (.d (.tup [.int s, .int e, .bl b])), some (.d (.int c)), none, none] _ _ _
  unfold t__law_near
  walk_at "xs"
  refine w_lcP (nearO t s c) (wi_rng2 ?_)
  walk_at "xs"
  refine rd_ixT (d := .int s) rfl ⟨_, rfl, ?_⟩
  walk_at "xs"
  refine rd_ixT (d := .int e) rfl ?_
  walk_at "xs"
  have hlen : ((e : Int) + 1 - (s : Int)).toNat = e + 1 - s := by omega
  refine ⟨s, e + 1, rfl, ⟨by omega, by omega, by omega, by omega⟩, ?_⟩
  rw [hlen]
  refine ⟨noneAt1 rfl, by rw [ran_len]; omega, fun i d hd => ?_, ?_⟩
  · have hi : i < e + 1 - s := by
      have := (List.getElem?_eq_some_iff.mp hd).1
      rw [ran_len] at this
      exact this
    rw [ran_get hi] at hd
    cases hd
    have e1 : (s : Int) + (i : Int) = ((s + i : Nat) : Int) := by omega
    rw [e1]
    refine gv_name (by simp) ?_
    walk_at "xs"
    refine ⟨fun _ => ?_, fun z => nomatch z⟩
    walk_at "xs"
    refine w_fn ?_
    walk_at "xs"
    refine ⟨by omega, ?_⟩
    walk_at "xs"
    refine rd_ixT (d := .int s) rfl ⟨_, rfl, ?_⟩
    walk_at "xs"
    rw [cut_nat]
    refine ⟨_, rfl, by rw [List.length_take, List.length_drop]; omega, ?_⟩
    walk_at "xs"
    refine ⟨by show 2 ≤ 16000000; decide, _, rfl, ?_, rfl⟩
    show some (dPair (dis t s c ((s + i : Nat) : Int).toNat, ((s + i : Nat) : Int))) = _
    rw [Int.toNat_natCast]
    rfl
  have hmap : (ran (s : Int) (e + 1 - s)).filterMap (nearO t s c) = ((List.range (e + 1 - s)).map (nearP t s c)).map dPair := by
    unfold ran
    rw [List.map_map]
    refine fm_map (f := fun (k : Nat) => Da.int ((s : Int) + (k : Int))) (g := dPair ∘ nearP t s c) (h := nearO t s c) (fun k => ?_) _
    show some (dPair (dis t s c ((s : Int) + (k : Int)).toNat, (s : Int) + (k : Int))) = some (dPair (nearP t s c k))
    have e1 : (s : Int) + (k : Int) = ((s + k : Nat) : Int) := by omega
    rw [e1, Int.toNat_natCast]
    rfl
  rw [hmap]
  walk_at "xs"
  refine cd_minP ?_ ?_ ?_
  · intro z
    have := congrArg List.length z
    simp at this
    omega
  · intro q hq
    obtain ⟨k, hk2, rfl⟩ := List.mem_map.mp hq
    have := List.mem_range.mp hk2
    exact ⟨by show 0 ≤ ((s + k : Nat) : Int); omega, by show ((s + k : Nat) : Int) < 10000; omega⟩
  · intro q hq hmin
    obtain ⟨k, hk2, rfl⟩ := List.mem_map.mp hq
    have hk3 := List.mem_range.mp hk2
    walk_at "xs"
    refine rd_ixT (d := .int ((s + k : Nat) : Int)) rfl ?_
    have hcode : ∀ j, j < e + 1 - s → dis t s c (s + k) * 10000 + ((s + k : Nat) : Int) ≤ dis t s c (s + j) * 10000 + ((s + j : Nat) : Int) := fun j hj => hmin _ (List.mem_map.mpr ⟨j, List.mem_range.mpr hj, rfl⟩)
    refine hk (s + k) ⟨by omega, by omega, fun o o1 o2 => ?_, fun o o1 o2 => ?_⟩
    · have := hcode (o - s) (by omega)
      have e2 : s + (o - s) = o := by omega
      rw [e2] at this
      omega
    · have := hcode (o - s) (by omega)
      have e2 : s + (o - s) = o := by omega
      rw [e2] at this
      omega
end Cr

/-! Lists that comprehensions make, owned by the slot they are put into. -/
namespace Cr
open PySem L2
section
variable {K : PySem.W.Frag} {w : Ow} {Hb H : Hp} {σ : St} {δ : Dl}
def adoptW (w : Ow) (p : Addr) : Ow := fun a => if a = p then some p else if w a = some p then none else w a
theorem SD.adopt (s : SD K w Hb H σ δ) {i : Nat} {p : Addr} {A : OwnA} (hw : w p = none) (hb : Hb p = none) (hA : A.ok Hb H (fun a => a = p) p) :
    SD K (adoptW w p) Hb H (σ.set i (some (.ref p))) (δ.set i (some (.o p A))) := by
  have hp' := (A.root hA).1
  have notp : ∀ (j : Nat) (B : OwnA), δ[j]? = some (some (.o p B)) → False := fun j B e => by
    obtain ⟨v, _, _, k⟩ := s.val j _ e
    have := (B.root k).2
    rw [hw] at this
    cases this
  have back : ∀ (j : Nat) (q : Addr) (B : OwnA), (δ.set i (some (.o p A)))[j]? = some (some (.o q B)) → (j = i ∧ q = p) ∨ (j ≠ i ∧ δ[j]? = some (some (.o q B))) := fun j q B e => by
    by_cases z : j = i
    · subst z
      have hl : j < δ.length := by
        have := (List.getElem?_eq_some_iff.mp e).1
        simpa using this
      rw [List.getElem?_set_self hl] at e
      cases e
      exact .inl ⟨rfl, rfl⟩
    · rw [List.getElem?_set_ne (Ne.symm z)] at e
      exact .inr ⟨z, e⟩
  have aw : ∀ a q, adoptW w p a = some q → (a = p ∧ q = p) ∨ (a ≠ p ∧ q ≠ p ∧ w a = some q) := fun a q e => by
    unfold adoptW at e
    by_cases z : a = p
    · rw [if_pos z] at e
      exact .inl ⟨z, (Option.some.inj e).symm⟩
    · rw [if_neg z] at e
      by_cases z2 : w a = some p
      · rw [if_pos z2] at e
        cases e
      · rw [if_neg z2] at e
        exact .inr ⟨z, fun z3 => z2 (by rw [← z3]; exact e), e⟩
  have pe : ∀ q, q ≠ p → (fun a => adoptW w p a = some q) = fun a => w a = some q := fun q hq => funext fun a => propext ⟨fun e => by
    rcases aw a q e with ⟨_, z⟩ | ⟨_, _, z⟩
    · exact absurd z hq
    · exact z, fun e => by
    unfold adoptW
    have z : a ≠ p := fun z => by rw [z, hw] at e; cases e
    rw [if_neg z, if_neg (fun z2 => hq (by rw [z2] at e; exact (Option.some.inj e).symm))]
    exact e⟩
  have pp : (fun a => adoptW w p a = some p) = fun a => a = p := funext fun a => propext ⟨fun e => by
    rcases aw a p e with ⟨z, _⟩ | ⟨_, z, _⟩
    · exact z
    · exact absurd rfl z, fun e => by
    unfold adoptW
    rw [if_pos e]⟩
  refine ⟨s.sub, fun a j e => ?_, fun a j e => ?_, fun j k q B C h1 h2 => ?_, fun j y e => ?_, by simp [s.len]⟩
  · rcases aw a j e with ⟨z, _⟩ | ⟨_, _, z⟩
    · rw [z]
      exact hb
    · exact s.dis a j z
  · rcases aw a j e with ⟨z, z2⟩ | ⟨_, _, z⟩
    · rw [z, z2]
      exact ⟨hp', hp'⟩
    · exact s.dom a j z
  · rcases back j q B h1 with ⟨e1, e2⟩ | ⟨n1, e1⟩
    · rcases back k q C h2 with ⟨e3, _⟩ | ⟨_, e3⟩
      · rw [e1, e3]
      · rw [e2] at e3
        exact (notp k C e3).elim
    · rcases back k q C h2 with ⟨_, e3⟩ | ⟨_, e3⟩
      · rw [e3] at e1
        exact (notp j B e1).elim
      · exact s.uniq j k q B C e1 e3
  · by_cases q : j = i
    · subst q
      have hl : j < δ.length := by
        have := (List.getElem?_eq_some_iff.mp e).1
        simpa using this
      rw [List.getElem?_set_self hl] at e
      cases e
      refine ⟨.ref p, List.getElem?_set_self (by rw [← s.len]; exact hl), rfl, ?_⟩
      rw [pp]
      exact hA
    · rw [List.getElem?_set_ne (Ne.symm q)] at e
      obtain ⟨u, h1, h2⟩ := s.val j y e
      refine ⟨u, by rw [List.getElem?_set_ne (Ne.symm q)]; exact h1, ?_⟩
      cases y with
      | d y => exact h2
      | o r B =>
        refine ⟨h2.1, ?_⟩
        have nr : r ≠ p := fun z => by
          rw [z] at e
          exact notp j B e
        rw [pe r nr]
        exact h2.2
end
section
variable {K : PySem.W.Frag} {E : WX} {δ : Dl} {N : Dl → Prop} {R : PX} {X : XX} {wi : TI} {g : TG} {tt : TT} {te : TE} {vs : List Nat} {i : Nat}
theorem t_newLc (h : WI K E wi δ (fun ds δ1 => NoneAt δ1 vs ∧ ds.length ≤ 16000000 ∧ ∃ I : Nat → List Da → Dl → Prop, I 0 [] δ1 ∧
      (∀ (i : Nat) d acc δ2, ds[i]? = some d → acc.length ≤ i → NoneAt δ2 vs → I i acc δ2 → Gv K g vs d δ2 (fun δ3 => WT K Ef tt δ3 (fun b δ4 =>
        (b = true → W K Ef te δ4 (fun y δ5 => ∃ e, y = .d e ∧ I (i + 1) (acc ++ [e]) (wipeD δ5 vs)) X0) ∧ (b = false → I (i + 1) acc (wipeD δ4 vs))) X0)) ∧
      ∀ acc δ2, acc.length ≤ ds.length → I ds.length acc δ2 → ∀ p, N (δ2.set i (some (.o p (olst K acc))))) X) : T K E (tAsgN (tLc wi g tt te vs) (gName i)) δ N R X := fun w σ Hb H DD s n r e => by
  refine h w σ Hb H s _ (fun ds δ1 J w1 Hb1 H1 ⟨n1, hz, I, i0, hs, hd⟩ s1 yl f1 => ?_) (e σ)
  intro D hD
  refine ⟨fun i m H' => m = ds.length - i ∧ i ≤ ds.length ∧ ∃ δ2 w2 Hb2 acc xs, I i acc δ2 ∧ NoneAt δ2 vs ∧ acc.length ≤ i ∧ SD K w2 Hb2 H' (wipe σ vs) δ2 ∧ Fm w1 Hb1 H1 w2 Hb2 H' ∧ H' D = some (.lst xs) ∧ w2 D = none ∧ Hb2 D = none ∧ RpAll K Hb2 xs acc, ?_, ?_⟩
  · obtain ⟨s2, f2⟩ := s1.side (o := .lst []) hD
    exact ⟨ds.length, by simp, Nat.zero_le _, δ1, w1, Hb1, [], [], i0, n1, Nat.le_refl _, s2.enter n1, f2, upd_same, s1.wfree hD, s1.free hD, .nil⟩
  rintro i m H2 ⟨rfl, hi, δ2, w2, Hb2, acc, xs, i2, n2, la, s2, f2, hD2, hw2, hb2, ra⟩
  have e2 : Same Hb1 H2 := f2.b.trans s2.sub
  by_cases hlt : i < ds.length
  · refine .inr ⟨yl.go i H2 e2 hlt, fun H' => ∃ δ2 w2 Hb2 acc xs, I (i + 1) acc δ2 ∧ NoneAt δ2 vs ∧ acc.length ≤ i + 1 ∧ SD K w2 Hb2 H' (wipe σ vs) δ2 ∧ Fm w1 Hb1 H1 w2 Hb2 H' ∧ H' D = some (.lst xs) ∧ w2 D = none ∧ Hb2 D = none ∧ RpAll K Hb2 xs acc, ?_, ?_⟩
    · rintro H' ⟨δ3, w3, Hb3, acc3, xs3, r3⟩
      exact ⟨ds.length - (i + 1), by omega, rfl, hlt, δ3, w3, Hb3, acc3, xs3, r3⟩
    · intro x H' y
      obtain ⟨eH, d, hd', rd⟩ := yl.yld i H2 x H' e2 y hlt
      subst eH
      refine hs i d acc δ2 hd' la n2 i2 w2 _ Hb2 _ x s2 (Rp.mono f2.b rd) _ fun δ3 w3 σ3 k3 s3 f3 ew => ?_
      rw [wipe_idem] at ew
      refine ⟨ew, k3 w3 σ3 Hb2 _ s3 _ (fun b δ4 w4 Hb4 H4 k4 s4 f4 => ?_) (fun _ _ _ _ _ z => z.elim)⟩
      have g3 := f3.fr D _ hD2 hw2 hb2
      have g4 := f4.fr D _ g3.1 g3.2.1 g3.2.2
      cases b with
      | true =>
        refine k4.1 rfl w4 σ3 Hb4 H4 s4 _ (fun y δ5 v w5 Hb5 H5 ⟨e5, ey, k5⟩ s5 r5 f5 => ?_) (fun _ _ _ _ _ z => z.elim)
        subst ey
        have g5 := f5.fr D _ g4.1 g4.2.1 g4.2.2
        have ra5 := ra.mono ((f3.trans f4).trans f5).b
        refine ⟨xs, g5.1, szl (by rw [ra.length]; omega), wipeD δ5 vs, w5, Hb5, acc ++ [e5], xs ++ [v], k5, wipeD_none _ _, by rw [List.length_append, List.length_singleton]; omega, ?_, ?_, upd_same, g5.2.1, g5.2.2, ra5.append (.cons r5 .nil)⟩
        · have s6 := s5.wipe vs
          rw [ew] at s6
          have nD : ∀ a p, w5 a = some p → a ≠ D := fun a p z1 z2 => by
            rw [z2, g5.2.1] at z1
            cases z1
          have al : ∀ a, H5 a ≠ none → upd H5 D (.lst (xs ++ [v])) a ≠ none := fun a z => by
            by_cases q : a = D
            · subst q
              rw [upd_same]
              exact fun z => nomatch z
            · rw [upd_ne q]
              exact z
          refine ⟨fun a u z => ?_, s6.dis, fun a p z => ⟨al a (s6.dom a p z).1, al p (s6.dom a p z).2⟩, s6.uniq, fun j y z => ?_, s6.len⟩
          · rw [upd_ne (ne_of_none z g5.2.2)]
            exact s6.sub a u z
          · obtain ⟨u, h1, h2⟩ := s6.val j y z
            refine ⟨u, h1, ?_⟩
            cases y with
            | d y => exact h2
            | o p A => exact ⟨h2.1, A.loc (fun a ha => upd_ne (nD a p ha)) h2.2⟩
        · have ff := ((f2.trans f3).trans f4).trans f5
          refine ⟨ff.b, fun a o z1 z2 z3 => ?_, fun a z => ?_, ff.rt⟩
          · obtain ⟨q1, q2, q3⟩ := ff.fr a o z1 z2 z3
            exact ⟨by rw [upd_ne (ne_of_none z1 hD)]; exact q1, q2, q3⟩
          · by_cases q : a = D
            · subst q
              rw [upd_same]
              exact fun z => nomatch z
            · rw [upd_ne q]
              exact ff.al a z
      | false =>
        have s6 := s4.wipe vs
        rw [ew] at s6
        exact ⟨wipeD δ4 vs, w4, Hb4, acc, xs, k4.2 rfl, wipeD_none _ _, by omega, s6, (f2.trans f3).trans f4, g4.1, g4.2.1, g4.2.2, ra.mono (f3.trans f4).b⟩
  · have ei : i = ds.length := by omega
    subst ei
    refine .inl ⟨yl.stop H2 e2, ?_⟩
    have s3 := (s2.unwipe).adopt (i := i) (A := olst K acc) hw2 hb2 ⟨xs, hD2, ra, fun a => Iff.rfl⟩
    refine n _ _ _ _ _ (hd acc δ2 la i2 D) s3 (f1.trans ⟨f2.b, fun a o z1 z2 z3 => ?_, f2.al, fun a q z => ?_⟩)
    · obtain ⟨q1, q2, q3⟩ := f2.fr a o z1 z2 z3
      refine ⟨q1, ?_, q3⟩
      unfold adoptW
      rw [if_neg (ne_of_none z1 hD), q2, if_neg (fun z => nomatch z)]
    · unfold adoptW at z
      by_cases q1 : a = D
      · rw [if_pos q1] at z
        rw [← Option.some.inj z]
        exact .inr hD
      · rw [if_neg q1] at z
        by_cases q2 : w2 a = some D
        · rw [if_pos q2] at z
          cases z
        · rw [if_neg q2] at z
          exact f2.rt a q z
theorem t_newLcP (f : Da → Option Da) (h : WI K E wi δ (fun ds δ1 => NoneAt δ1 vs ∧ ds.length ≤ 16000000 ∧
      (∀ (i : Nat) d, ds[i]? = some d → Gv K g vs d δ1 (fun δ3 => WT K Ef tt δ3 (fun b δ4 =>
        (b = true → W K Ef te δ4 (fun y δ5 => ∃ e, y = .d e ∧ f d = some e ∧ wipeD δ5 vs = δ1) X0) ∧ (b = false → f d = none ∧ wipeD δ4 vs = δ1)) X0)) ∧
      ∀ p, N (δ1.set i (some (.o p (olst K (ds.filterMap f)))))) X) : T K E (tAsgN (tLc wi g tt te vs) (gName i)) δ N R X := by
  refine t_newLc (fun w σ Hb H s Q q e => h w σ Hb H s Q (fun ds δ' J w' Hb' H' ⟨h1, h2, h3, h4⟩ s' yl fm => q ds δ' J w' Hb' H' ⟨h1, h2, fun i acc δ2 => acc = (ds.take i).filterMap f ∧ δ2 = δ', ⟨by simp, rfl⟩, ?_, ?_⟩ s' yl fm) e)
  · rintro i d acc δ2 hd _ _ ⟨rfl, rfl⟩
    have et : (ds.take (i + 1)).filterMap f = (ds.take i).filterMap f ++ (match f d with | some e => [e] | none => []) := by
      rw [List.take_succ, hd, List.filterMap_append]
      congr 1
      simp [List.filterMap_cons]
      cases f d <;> rfl
    intro w σ Hb H v s r Q q
    refine h3 i d hd w σ Hb H v s r Q fun δ3 w3 σ3 k3 s3 f3 ew => q δ3 w3 σ3 (fun w4 σ4 Hb4 H4 s4 Q4 q4 e4 => k3 w4 σ4 Hb4 H4 s4 Q4 (fun b δ4 w5 Hb5 H5 k5 s5 f5 => q4 b δ4 w5 Hb5 H5 ⟨fun hb => (k5.1 hb).imp ?_, fun hb => ?_⟩ s5 f5) e4) s3 f3 ew
    · rintro y δ5 ⟨e, rfl, k1, k2⟩
      refine ⟨e, rfl, ?_, k2⟩
      rw [et, k1]
    · obtain ⟨k1, k2⟩ := k5.2 hb
      refine ⟨?_, k2⟩
      rw [et, k1, List.append_nil]
  · rintro acc δ2 _ ⟨rfl, rfl⟩
    rw [List.take_of_length_le (Nat.le_refl _)]
    exact h4
end
end Cr

/-! Sheets: owned objects of the slots. -/
namespace Cr
open PySem PySem.Spec PyProof.Rows L2
structure Sh where
  now : List Nat
  width : Nat
  height : Nat
  caret : Nat
  back : Bool
  anchor : Nat
  wish : Option Nat
  first : Nat
  marked : List (List Nat × Nat)
def wV : Option Nat → V
  | none => .non
  | some n => .int n
def wD : Option Nat → Da
  | none => .non
  | some n => .int n
theorem rp_wV {K : PySem.W.Frag} {H : Hp} (o : Option Nat) : Rp K H (wV o) (wD o) := by
  cases o with
  | none => exact .non
  | some n => exact .int _
theorem wV_of {K : PySem.W.Frag} {H : Hp} {v : V} {o : Option Nat} (r : Rp K H v (wD o)) : v = wV o := by
  cases o with
  | none => cases r; rfl
  | some n => cases r; rfl
def shF (s : Sh) (m : Addr) : List (Str × V) := [("now", .str (S s.now)), ("width", .int s.width), ("height", .int s.height), ("caret", .int s.caret), ("is_back", .bl s.back), ("anchor", .int s.anchor), ("wish", wV s.wish), ("first", .int s.first), ("marked", .ref m)]
def shNames : List Str := ["now", "width", "height", "caret", "is_back", "anchor", "wish", "first", "marked"]
def mkV (l : List (List Nat × Nat)) : List (Key × V) := l.map fun q => (.inr (S q.1), .int q.2)
def osh (K : PySem.W.Frag) (s : Sh) : OwnA where
  ok := fun _ H F p => ∃ dx m, m ≠ p ∧ H p = some (.ins (He.ga K "Sheet") dx (shF s m)) ∧ H m = some (.dK (mkV s.marked)) ∧ ∀ a, F a ↔ a = p ∨ a = m
  mono := fun _ h => h
  loc := fun {Hb H H' F p} e ⟨dx, m, h1, h2, h3, h4⟩ => ⟨dx, m, h1, by rw [e p ((h4 p).mpr (.inl rfl))]; exact h2, by rw [e m ((h4 m).mpr (.inr rfl))]; exact h3, h4⟩
  root := fun {Hb H F p} ⟨dx, m, h1, h2, h3, h4⟩ => ⟨(by rw [h2]; exact (fun z => nomatch z)), (h4 p).mpr (.inl rfl)⟩
/-- what the class of sheets must say -/
structure ShC (K : PySem.W.Frag) : Prop where
  c : Cls K (He.ga K "Sheet")
  n : ∀ f ∈ shNames, NoAttr K (He.ga K "Sheet") f
section
variable {K : PySem.W.Frag} {E : WX} {δ : Dl} {P : PX} {N : Dl → Prop} {R : PX} {X : XX} {i : Nat} {p : Addr} {s : Sh}
theorem w_fldS {f : Str} {v : V} {d : Da} (C : ShC K) (hi : δ[i]? = some (some (.o p (osh K s)))) (hn : f ∈ shNames) (hl : ∀ m, (shF s m).lookup f = some v) (hv : ∀ H, Rp K H v d) (k : P (.d d) δ) : W K E (tFld K (tVar i) f) δ P X := fun w σ Hb H sd Q q _ => by
  obtain ⟨u, h1, h2, dx, m, h3, h4, h5, h6⟩ := sd.val i _ hi
  subst h2
  exact ⟨.ref p, h1, p, _, dx, _, v, rfl, h4, C.c, C.n f hn, hl m, q _ δ _ w Hb H k sd (hv Hb) (Fm.refl _ _ _)⟩
theorem t_fldS {f : Str} {tv : TE} (C : ShC K) (hn : f ∈ shNames) (h : W K E tv δ (fun y δ1 => ∃ (d : Da) (p : Addr) (s s' : Sh), y = .d d ∧ δ1[i]? = some (some (.o p (osh K s))) ∧ s'.marked = s.marked ∧ (∀ H v, Rp K H v d → ∀ m, putF f v (shF s m) = shF s' m) ∧ N (δ1.set i (some (.o p (osh K s'))))) X) : T K E (sFld K (tVar i) tv f) δ N R X := fun w σ Hb H D sd n r e => by
  refine h w σ Hb H sd _ (fun y δ1 v w1 Hb1 H1 ⟨d, p, s, s', ey, hi, hm, hp, k⟩ s1 r1 f1 => ?_) (e σ)
  subst ey
  obtain ⟨u, h1, h2, dx, m, h3, h4, h5, h6⟩ := s1.val i _ hi
  subst h2
  refine ⟨.ref p, h1, p, _, dx, _, rfl, h4, C.c, C.n f hn, by show 9 < 1000; decide, ?_⟩
  rw [hp Hb1 v r1 m]
  obtain ⟨s3, f3⟩ := s1.turn0 (A' := osh K s') (H' := upd H1 p (.ins (He.ga K "Sheet") dx (shF s' m))) hi (fun a o ha hn => by rw [upd_ne (fun z => hn ((h6 a).mpr (.inl z)))]; exact ha) (fun a ha => by
    by_cases z : a = p
    · subst z
      rw [upd_same]
      exact fun z => nomatch z
    · rw [upd_ne z]
      exact ha) ⟨dx, m, h3, upd_same, by rw [upd_ne h3, hm]; exact h5, h6⟩
  exact n _ _ _ _ _ k s3 (f1.trans f3)
theorem w_now (C : ShC K) (hi : δ[i]? = some (some (.o p (osh K s)))) (k : P (.d (.str s.now)) δ) : W K E (tFld K (tVar i) "now") δ P X := w_fldS C hi (by simp [shNames]) (fun _ => rfl) (fun _ => .str _) k
theorem t_now {tv : TE} (C : ShC K) (h : W K E tv δ (fun y δ1 => ∃ (d : List Nat) (p : Addr) (s : Sh), y = .d (.str d) ∧ δ1[i]? = some (some (.o p (osh K s))) ∧ N (δ1.set i (some (.o p (osh K { s with now := d }))))) X) : T K E (sFld K (tVar i) tv "now") δ N R X := t_fldS C (by simp [shNames]) (h.imp fun y δ1 ⟨d, p, s, ey, hi, k⟩ => ⟨_, p, s, { s with now := d }, ey, hi, rfl, fun _ _ r _ => by cases r; rfl, k⟩)
theorem w_width (C : ShC K) (hi : δ[i]? = some (some (.o p (osh K s)))) (k : P (.d (.int s.width)) δ) : W K E (tFld K (tVar i) "width") δ P X := w_fldS C hi (by simp [shNames]) (fun _ => rfl) (fun _ => .int _) k
theorem t_width {tv : TE} (C : ShC K) (h : W K E tv δ (fun y δ1 => ∃ (d : Nat) (p : Addr) (s : Sh), y = .d (.int d) ∧ δ1[i]? = some (some (.o p (osh K s))) ∧ N (δ1.set i (some (.o p (osh K { s with width := d }))))) X) : T K E (sFld K (tVar i) tv "width") δ N R X := t_fldS C (by simp [shNames]) (h.imp fun y δ1 ⟨d, p, s, ey, hi, k⟩ => ⟨_, p, s, { s with width := d }, ey, hi, rfl, fun _ _ r _ => by cases r; rfl, k⟩)
theorem w_height (C : ShC K) (hi : δ[i]? = some (some (.o p (osh K s)))) (k : P (.d (.int s.height)) δ) : W K E (tFld K (tVar i) "height") δ P X := w_fldS C hi (by simp [shNames]) (fun _ => rfl) (fun _ => .int _) k
theorem t_height {tv : TE} (C : ShC K) (h : W K E tv δ (fun y δ1 => ∃ (d : Nat) (p : Addr) (s : Sh), y = .d (.int d) ∧ δ1[i]? = some (some (.o p (osh K s))) ∧ N (δ1.set i (some (.o p (osh K { s with height := d }))))) X) : T K E (sFld K (tVar i) tv "height") δ N R X := t_fldS C (by simp [shNames]) (h.imp fun y δ1 ⟨d, p, s, ey, hi, k⟩ => ⟨_, p, s, { s with height := d }, ey, hi, rfl, fun _ _ r _ => by cases r; rfl, k⟩)
theorem w_caret (C : ShC K) (hi : δ[i]? = some (some (.o p (osh K s)))) (k : P (.d (.int s.caret)) δ) : W K E (tFld K (tVar i) "caret") δ P X := w_fldS C hi (by simp [shNames]) (fun _ => rfl) (fun _ => .int _) k
theorem t_caret {tv : TE} (C : ShC K) (h : W K E tv δ (fun y δ1 => ∃ (d : Nat) (p : Addr) (s : Sh), y = .d (.int d) ∧ δ1[i]? = some (some (.o p (osh K s))) ∧ N (δ1.set i (some (.o p (osh K { s with caret := d }))))) X) : T K E (sFld K (tVar i) tv "caret") δ N R X := t_fldS C (by simp [shNames]) (h.imp fun y δ1 ⟨d, p, s, ey, hi, k⟩ => ⟨_, p, s, { s with caret := d }, ey, hi, rfl, fun _ _ r _ => by cases r; rfl, k⟩)
theorem w_is_back (C : ShC K) (hi : δ[i]? = some (some (.o p (osh K s)))) (k : P (.d (.bl s.back)) δ) : W K E (tFld K (tVar i) "is_back") δ P X := w_fldS C hi (by simp [shNames]) (fun _ => rfl) (fun _ => .bl _) k
theorem t_is_back {tv : TE} (C : ShC K) (h : W K E tv δ (fun y δ1 => ∃ (d : Bool) (p : Addr) (s : Sh), y = .d (.bl d) ∧ δ1[i]? = some (some (.o p (osh K s))) ∧ N (δ1.set i (some (.o p (osh K { s with back := d }))))) X) : T K E (sFld K (tVar i) tv "is_back") δ N R X := t_fldS C (by simp [shNames]) (h.imp fun y δ1 ⟨d, p, s, ey, hi, k⟩ => ⟨_, p, s, { s with back := d }, ey, hi, rfl, fun _ _ r _ => by cases r; rfl, k⟩)
theorem w_anchor (C : ShC K) (hi : δ[i]? = some (some (.o p (osh K s)))) (k : P (.d (.int s.anchor)) δ) : W K E (tFld K (tVar i) "anchor") δ P X := w_fldS C hi (by simp [shNames]) (fun _ => rfl) (fun _ => .int _) k
theorem t_anchor {tv : TE} (C : ShC K) (h : W K E tv δ (fun y δ1 => ∃ (d : Nat) (p : Addr) (s : Sh), y = .d (.int d) ∧ δ1[i]? = some (some (.o p (osh K s))) ∧ N (δ1.set i (some (.o p (osh K { s with anchor := d }))))) X) : T K E (sFld K (tVar i) tv "anchor") δ N R X := t_fldS C (by simp [shNames]) (h.imp fun y δ1 ⟨d, p, s, ey, hi, k⟩ => ⟨_, p, s, { s with anchor := d }, ey, hi, rfl, fun _ _ r _ => by cases r; rfl, k⟩)
theorem w_wish (C : ShC K) (hi : δ[i]? = some (some (.o p (osh K s)))) (k : P (.d (wD s.wish)) δ) : W K E (tFld K (tVar i) "wish") δ P X := w_fldS C hi (by simp [shNames]) (fun _ => rfl) (fun _ => rp_wV _) k
theorem t_wish {tv : TE} (C : ShC K) (h : W K E tv δ (fun y δ1 => ∃ (d : Option Nat) (p : Addr) (s : Sh), y = .d (wD d) ∧ δ1[i]? = some (some (.o p (osh K s))) ∧ N (δ1.set i (some (.o p (osh K { s with wish := d }))))) X) : T K E (sFld K (tVar i) tv "wish") δ N R X := t_fldS C (by simp [shNames]) (h.imp fun y δ1 ⟨d, p, s, ey, hi, k⟩ => ⟨_, p, s, { s with wish := d }, ey, hi, rfl, fun _ _ r _ => by rw [wV_of r]; rfl, k⟩)
theorem w_first (C : ShC K) (hi : δ[i]? = some (some (.o p (osh K s)))) (k : P (.d (.int s.first)) δ) : W K E (tFld K (tVar i) "first") δ P X := w_fldS C hi (by simp [shNames]) (fun _ => rfl) (fun _ => .int _) k
theorem t_first {tv : TE} (C : ShC K) (h : W K E tv δ (fun y δ1 => ∃ (d : Nat) (p : Addr) (s : Sh), y = .d (.int d) ∧ δ1[i]? = some (some (.o p (osh K s))) ∧ N (δ1.set i (some (.o p (osh K { s with first := d }))))) X) : T K E (sFld K (tVar i) tv "first") δ N R X := t_fldS C (by simp [shNames]) (h.imp fun y δ1 ⟨d, p, s, ey, hi, k⟩ => ⟨_, p, s, { s with first := d }, ey, hi, rfl, fun _ _ r _ => by cases r; rfl, k⟩)
end
/-! ### methods of sheets -/
/-- a method's call within try -/
def tMethT (C : Addr) (m : Str) (sp : Sp) (E : L2.St → XK) (ta : TE) (t : TA) : TE := fun σ H Q => ta σ H fun x H1 => ∃ a dx fs, x = .ref a ∧ H1 a = some (.ins C dx fs) ∧ fs.lookup m = none ∧ t σ H1 fun vs H2 => sp (x :: vs) H2 Q (E σ)
section
variable {X : Cx} {CX : CXT} {k j : Nat} {C m : Str} {ps : List Str} {sp : Sp} {E : L2.St → XK} {e o : Expr} {es : List Expr} {t : TA} {ta : TE} {pos apos : Pos}
theorem pmT {pl : Sem Bool} (F : Mt X.prog X.w X.K X.mg X.base CX k C m ps sp) (hr : Room j X.A) (hj : k ≤ j) (hx : ∀ σ, PassesAt CX X σ (E σ)) (he : PE X o ta) (ha : PA X (e :: es) t)
    (hst : starEach (e :: es) X.env = (false, eval e X.env) :: starEach es X.env := by rfl) (hpl : (backTo pos (starEach es X.env)).any (·.1) = false := by rfl)
    (ht : eval (.Call (.Attribute o m apos) (e :: es) [] pos) X.env = (do
      let ov ← eval o X.env
      standAt apos.atName
      let (f, first) ← holding [ov] (getMethod ov m pl)
      callWith pos f first (backTo pos (starEach (e :: es) X.env)) (backToKw pos (keywordEach [] X.env))) := by rfl) : PE X (.Call (.Attribute o m apos) (e :: es) [] pos) (tMethT (He.ga X.K C) m sp E ta t) := by
  obtain ⟨c, me, ⟨fd, h, b⟩⟩ := F
  refine ⟨fun pins s σ H Q I hq => ?_⟩
  refine PySem.W.methodCall_KW (pl := pl) (thn (he.run pins s σ H _ I hq) fun u s1 ⟨x, H1, I1, rx, a, dx, fs, ex, ea, l, q⟩ => ?_) ht
  subst ex
  have eu : u = Value.ref a := rx
  subst eu
  refine getmeth_ok I1 ea c me l ?_
  refine PySem.W.callWith_K (first := [.ref a]) (h₀ := X.base) I.ok.mod.kin me.kp (thn (ha.run pos pins s1 σ H1 _ I1 q) fun us s2 ⟨vs, H2, I2, r, q2⟩ => ⟨I2.kIn, ?_⟩) hst hpl
  exact run_fnS (us := .ref a :: us) (vs := .ref a :: vs) h (hr.mono hj) b (hx σ) I2 (.cons rfl r) q2
end
section
variable {K : PySem.W.Frag} {E : WX} {δ : Dl} {P : PX} {X : XX} {F : FS} {te : TE} {ta : TA} {m : Str}
theorem lookup_no {s : Sh} {d : Addr} (hm : m ∉ shNames) : (shF s d).lookup m = none := by
  simp only [shNames, List.mem_cons, List.not_mem_nil, or_false, not_or] at hm
  obtain ⟨h1, h2, h3, h4, h5, h6, h7, h8, h9⟩ := hm
  unfold shF
  simp only [List.lookup]
  rw [beq_false_of_ne h1, beq_false_of_ne h2, beq_false_of_ne h3, beq_false_of_ne h4, beq_false_of_ne h5, beq_false_of_ne h6, beq_false_of_ne h7, beq_false_of_ne h8, beq_false_of_ne h9]
theorem w_meth {E' : XK} (hm : m ∉ shNames) (h : W K E te δ (fun x δ1 => ∃ (p : Addr) (i : Nat) (s : Sh), x = .a p ∧ δ1[i]? = some (some (.o p (osh K s))) ∧ WA K E ta δ1 (fun xs δ2 => Cl F (.a p :: xs) δ2 P X0) X) X) : W K E (tMeth (He.ga K "Sheet") m (SpOf K F) [] E' te ta) δ P X := fun w σ Hb H sd Q q e => by
  refine h w σ Hb H sd _ (fun x δ1 v w1 Hb1 H1 ⟨p, i, s, ex, hi, k⟩ s1 r1 f1 => ?_) e
  subst ex
  have r1' : v = .ref p := r1
  subst r1'
  obtain ⟨u, _, _, dx, mm, h3, h4, _⟩ := s1.val i _ hi
  refine ⟨p, dx, _, rfl, h4, lookup_no hm, ?_⟩
  refine k w1 σ Hb1 H1 s1 _ (fun xs δ2 vs w2 Hb2 H2 k2 s2 r2 f2 => ?_) (e.on f1)
  rw [List.append_nil]
  exact cl_run (X := X0) s2 (.cons (show Rv K Hb2 (.ref p) (.a p) from rfl) r2) k2 (fun x δ' v w' Hb' H' p s' r' f' => q x δ' v w' Hb' H' p s' r' ((f1.trans f2).trans f')) fun _ _ _ _ _ z => z.elim
theorem w_methX {E' : XK} (hE : ∀ c d σ H, E c d σ H → E' c d H) (hm : m ∉ shNames) (h : W K E te δ (fun x δ1 => ∃ (p : Addr) (i : Nat) (s : Sh), x = .a p ∧ δ1[i]? = some (some (.o p (osh K s))) ∧ WA K E ta δ1 (fun xs δ2 => Cl F (.a p :: xs) δ2 P X) X) X) : W K E (tMeth (He.ga K "Sheet") m (SpOf K F) [] E' te ta) δ P X := fun w σ Hb H sd Q q e => by
  refine h w σ Hb H sd _ (fun x δ1 v w1 Hb1 H1 ⟨p, i, s, ex, hi, k⟩ s1 r1 f1 => ?_) e
  subst ex
  have r1' : v = .ref p := r1
  subst r1'
  obtain ⟨u, _, _, dx, mm, h3, h4, _⟩ := s1.val i _ hi
  refine ⟨p, dx, _, rfl, h4, lookup_no hm, ?_⟩
  refine k w1 σ Hb1 H1 s1 _ (fun xs δ2 vs w2 Hb2 H2 k2 s2 r2 f2 => ?_) (e.on f1)
  rw [List.append_nil]
  exact cl_run s2 (.cons (show Rv K Hb2 (.ref p) (.a p) from rfl) r2) k2 (fun x δ' v w' Hb' H' p s' r' f' => q x δ' v w' Hb' H' p s' r' ((f1.trans f2).trans f')) fun C δ' w' Hb' H' z s' f' => hE _ _ σ _ (e C δ' w' Hb' H' z s' ((f1.trans f2).trans f'))
theorem w_methS (hm : m ∉ shNames) (h : W K E te δ (fun x δ1 => ∃ (p : Addr) (i : Nat) (s : Sh), x = .a p ∧ δ1[i]? = some (some (.o p (osh K s))) ∧ WA K E ta δ1 (fun xs δ2 => Cl F (.a p :: xs) δ2 P X) X) X) : W K E (tMethT (He.ga K "Sheet") m (SpOf K F) (WE E) te ta) δ P X := fun w σ Hb H sd Q q e => by
  refine h w σ Hb H sd _ (fun x δ1 v w1 Hb1 H1 ⟨p, i, s, ex, hi, k⟩ s1 r1 f1 => ?_) e
  subst ex
  have r1' : v = .ref p := r1
  subst r1'
  obtain ⟨u, _, _, dx, mm, h3, h4, _⟩ := s1.val i _ hi
  refine ⟨p, dx, _, rfl, h4, lookup_no hm, ?_⟩
  refine k w1 σ Hb1 H1 s1 _ (fun xs δ2 vs w2 Hb2 H2 k2 s2 r2 f2 => ?_) (e.on f1)
  exact cl_run s2 (.cons (show Rv K Hb2 (.ref p) (.a p) from rfl) r2) k2 (fun x δ' v w' Hb' H' p s' r' f' => q x δ' v w' Hb' H' p s' r' ((f1.trans f2).trans f')) fun C δ' w' Hb' H' z s' f' => e C δ' w' Hb' H' z s' ((f1.trans f2).trans f')
end
end Cr

/-! Sheets are made. -/
namespace Cr
open PySem PySem.Spec PyProof.Rows L2
def opart (K : PySem.W.Frag) (fs : List (Str × V)) : OwnA where
  ok := fun _ H F p => ∃ dx, H p = some (.ins (He.ga K "Sheet") dx fs) ∧ ∀ a, F a ↔ a = p
  mono := fun _ h => h
  loc := fun {Hb H H' F p} e ⟨dx, h1, h2⟩ => ⟨dx, by rw [e p ((h2 p).mpr rfl)]; exact h1, h2⟩
  root := fun {Hb H F p} ⟨dx, h1, h2⟩ => ⟨(by rw [h1]; exact (fun z => nomatch z)), (h2 p).mpr rfl⟩
theorem SD.slot {K : PySem.W.Frag} {w : Ow} {Hb H : Hp} {σ : L2.St} {δ : Dl} {i : Nat} {v : Option V} (s : SD K w Hb H (σ.set i v) δ) : SD K w Hb H σ (δ.set i none) := by
  have s2 := s.forget i
  refine ⟨s2.sub, s2.dis, s2.dom, s2.uniq, fun j x h => ?_, by rw [s2.len, List.length_set]⟩
  obtain ⟨u, h1, h2⟩ := s2.val j x h
  refine ⟨u, ?_, h2⟩
  by_cases z : i = j
  · subst z
    have hl : i < δ.length := by
      have := (List.getElem?_eq_some_iff.mp h).1
      simpa using this
    rw [List.getElem?_set_self hl] at h
    cases h
  · rw [List.getElem?_set_ne z] at h1
    exact h1
section
variable {K : PySem.W.Frag} {E : WX} {δ : Dl} {N : Dl → Prop} {R : PX} {X : XX} {i : Nat}
theorem t_part {f : Str} {tv : TE} (C : ShC K) (hn : f ∈ shNames) (h : W K E tv δ (fun y δ1 => ∃ (d : Da) (v0 : V) (p : Addr) (fs : List (Str × V)), y = .d d ∧ (∀ H v, Rp K H v d → v = v0) ∧ fs.length < 1000 ∧ δ1[i]? = some (some (.o p (opart K fs))) ∧ N (δ1.set i (some (.o p (opart K (putF f v0 fs)))))) X) : T K E (sFld K (tVar i) tv f) δ N R X := fun w σ Hb H D sd n r e => by
  refine h w σ Hb H sd _ (fun y δ1 v w1 Hb1 H1 ⟨d, v0, p, fs, ey, hv, hl, hi, k⟩ s1 r1 f1 => ?_) (e σ)
  subst ey
  obtain ⟨u, h1, h2, dx, h4, h6⟩ := s1.val i _ hi
  subst h2
  refine ⟨.ref p, h1, p, _, dx, _, rfl, h4, C.c, C.n f hn, hl, ?_⟩
  rw [hv Hb1 v r1]
  obtain ⟨s3, f3⟩ := s1.turn0 (A' := opart K (putF f v0 fs)) (H' := upd H1 p (.ins (He.ga K "Sheet") dx (putF f v0 fs))) hi (fun a o ha hn => by rw [upd_ne (fun z => hn ((h6 a).mpr z))]; exact ha) (fun a ha => by
    by_cases z : a = p
    · subst z
      rw [upd_same]
      exact fun z => nomatch z
    · rw [upd_ne z]
      exact ha) ⟨dx, upd_same, h6⟩
  exact n _ _ _ _ _ k s3 (f1.trans f3)
theorem t_marked {p : Addr} {fs : List (Str × V)} {s : Sh} (C : ShC K) (hi : δ[i]? = some (some (.o p (opart K fs)))) (hl : fs.length < 1000) (hf : ∀ m, putF "marked" (.ref m) fs = shF s m) (hm : s.marked = []) (k : N (δ.set i (some (.o p (osh K s))))) : T K E (sFld K (tVar i) tDNewK "marked") δ N R X := fun w σ Hb H D sd n r e => by
  intro m hmn
  obtain ⟨u, h1, h2, dx, h4, h6⟩ := sd.val i _ hi
  subst h2
  have hne : m ≠ p := fun z => by rw [z, h4] at hmn; exact nomatch hmn
  refine ⟨.ref p, h1, p, _, dx, _, rfl, by rw [upd_ne hne.symm]; exact h4, C.c, C.n "marked" (by simp [shNames]), hl, ?_⟩
  rw [hf m]
  have hp : p ≠ m := hne.symm
  obtain ⟨s3, f3⟩ := sd.turn (G := fun a => a = m) (A' := osh K s) (H' := upd (upd H m (.dK [])) p (.ins (He.ga K "Sheet") dx (shF s m))) hi (fun a ha => by rw [ha]; exact hmn) (fun a ha => by rw [ha, upd_ne hne, upd_same]; exact fun z => nomatch z) (fun a o ha hn => by
    rw [upd_ne (fun z => hn ((h6 a).mpr z)), upd_ne (ne_of_none ha hmn)]
    exact ha) (fun a ha => by
    by_cases z : a = p
    · subst z
      rw [upd_same]
      exact fun z => nomatch z
    · rw [upd_ne z]
      by_cases z2 : a = m
      · subst z2
        rw [upd_same]
        exact fun z => nomatch z
      · rw [upd_ne z2]
        exact ha) ⟨dx, m, hne, upd_same, by rw [upd_ne hne, upd_same, hm]; rfl, fun a => ⟨fun z => z.imp (h6 a).mp id, fun z => z.imp (h6 a).mpr id⟩⟩
  exact n _ _ _ _ _ k s3 f3
theorem t_makeS {F : FS} {E' : XK} {ta : TA} (hE : ∀ c d σ H, E c d σ H → E' c d H) (h : WD K E ta δ (fun ds δ1 => ∀ p, Cl F (.a p :: ds.map Vx.d) (δ1.set i (some (.o p (opart K [])))) (fun x δ' => x = .d .non ∧ N δ') (fun C δ' => X C (δ'.set i none))) X) : T K E (tAsgN (tMake (He.ga K "Sheet") (SpOf K F) [] E' ta) (gName i)) δ N R X := fun w σ Hb H D sd n r e => by
  refine h w σ Hb H sd _ (fun ds δ1 vs w1 Hb1 H1 k s1 r1 f1 => ?_) (e σ)
  intro x dx hx hdx hne
  rw [List.append_nil]
  obtain ⟨s2, f2⟩ := s1.new (p := dx) (o := .own x) hdx
  have hx2 : upd H1 dx (.own x) x = none := by rw [upd_ne (fun z => hne z.symm)]; exact hx
  obtain ⟨s3, f3⟩ := s2.setOwn (i := i) (A := opart K []) (H' := upd (upd H1 dx (.own x)) x (.ins (He.ga K "Sheet") dx [])) (F := fun a => a = x) hx2 (fun a ha => by rw [ha]; exact hx2) (same_new hx2) (fun a ha => by rw [ha, upd_same]; exact fun z => nomatch z) ⟨dx, upd_same, fun a => Iff.rfl⟩
  have rv : ∀ {vs : List V} {ds : List Da} {Hn : Hp}, RpAll K Hn vs ds → Paired (Rv K Hn) vs (ds.map Vx.d) := fun {vs ds Hn} q => by
    induction ds generalizing vs with
    | nil => cases q; exact .nil
    | cons d ds ih => cases q with
      | cons a b => exact .cons a (ih b)
  refine cl_run s3 (.cons (show Rv K _ (.ref x) (.a x) from rfl) (rv (r1.mono f2.b))) (k x) (fun y δ' v w' Hb' H' p s' r' f' => ?_) fun C δ' w' Hb' H' z s' f' => hE _ _ σ _ (e σ C _ w' Hb' H' z s'.slot (((f1.trans f2).trans f3).trans f'))
  obtain ⟨rfl, hN⟩ := p
  have r' : Rp K Hb' v .non := r'
  cases r'
  exact ⟨rfl, n _ _ _ _ _ hN s' (((f1.trans f2).trans f3).trans f')⟩
end
end Cr

/-! The law's model of a sheet: a dict of scalars; membership in tuples of texts. -/
namespace Cr
open PySem PySem.Spec PyProof.Rows L2
section
variable {K : PySem.W.Frag} {E : WX} {δ : Dl} {P : PX} {N : Dl → Prop} {R : PX} {X : XX} {i : Nat}
theorem inV_strs (l : List Nat) (ls : List (List Nat)) : inV (.str (S l)) ((ls.map S).map V.str) = decide (l ∈ ls) := by
  induction ls with
  | nil => rfl
  | cons a r ih =>
    have e : inV (.str (S l)) (((a :: r).map S).map V.str) = (eqV (.str (S a)) (.str (S l)) || inV (.str (S l)) ((r.map S).map V.str)) := rfl
    rw [e, ih]
    have e2 : eqV (.str (S a)) (.str (S l)) = decide (a = l) := by
      show decide (S a = S l) = _
      exact decide_eq_decide.mpr ⟨S_inj, fun z => by rw [z]⟩
    rw [e2, Bool.eq_iff_iff]
    simp only [Bool.or_eq_true, decide_eq_true_eq, List.mem_cons]
    exact ⟨fun z => z.imp Eq.symm id, fun z => z.imp Eq.symm id⟩
theorem flat_strs (ls : List (List Nat)) : (((ls.map S).map V.str)).all flatV = true := by
  rw [List.all_map]
  exact List.all_eq_true.mpr fun _ _ => rfl
theorem rd_inT {l : List Nat} {ls : List (List Nat)} (k : P (.d (.bl (decide (l ∈ ls)))) δ) : RD K E (rIn K false) (.d (.str l)) (.d (.tup (ls.map Da.str))) δ P X := rd_pure (fun Hb H v u sb r1 r2 Q q => by
  cases r1
  cases r2 with
  | @tup a xs _ hs ra =>
    have e := ra.strs
    subst e
    refine ⟨a, _, rfl, .inr (same_t sb hs), rfl, flat_strs ls, ?_⟩
    rw [if_neg (by decide), inV_strs]
    exact q _ (.bl _)) k
theorem rd_notInT {l : List Nat} {ls : List (List Nat)} (k : P (.d (.bl (!decide (l ∈ ls)))) δ) : RD K E (rIn K true) (.d (.str l)) (.d (.tup (ls.map Da.str))) δ P X := rd_pure (fun Hb H v u sb r1 r2 Q q => by
  cases r1
  cases r2 with
  | @tup a xs _ hs ra =>
    have e := ra.strs
    subst e
    refine ⟨a, _, rfl, .inr (same_t sb hs), rfl, flat_strs ls, ?_⟩
    rw [if_pos rfl, inV_strs]
    exact q _ (.bl _)) k
end
/-! ### the model -/
def mdV (s : Sh) : List (Key × V) := [(.inr "text", .str (S s.now)), (.inr "width", .int s.width), (.inr "height", .int s.height), (.inr "caret", .int s.caret), (.inr "back", .bl s.back), (.inr "anchor", .int s.anchor), (.inr "wish", wV s.wish), (.inr "first", .int s.first)]
/-- the rest of the model: none, or its marks -/
def mdT (m : Bool) (s : Sh) (H : Hp) (F : Addr → Prop) (p : Addr) (tl : List (Key × V)) : Prop := match m with
  | false => tl = [] ∧ ∀ b, F b ↔ b = p
  | true => ∃ a, a ≠ p ∧ tl = [(.inr "marks", .ref a)] ∧ H a = some (.dK (mkV s.marked)) ∧ ∀ b, F b ↔ b = p ∨ b = a
theorem mdT.root {m : Bool} {s : Sh} {H : Hp} {F : Addr → Prop} {p : Addr} {tl : List (Key × V)} (h : mdT m s H F p tl) : F p := by
  cases m with
  | false => exact (h.2 p).mpr rfl
  | true =>
    obtain ⟨a, _, _, _, h⟩ := h
    exact (h p).mpr (.inl rfl)
theorem mdT.loc {m : Bool} {s s' : Sh} {H H' : Hp} {F : Addr → Prop} {p : Addr} {tl : List (Key × V)} (h : mdT m s H F p tl) (hs : s'.marked = s.marked) (e : ∀ a, F a → a ≠ p → H' a = H a) : mdT m s' H' F p tl := by
  cases m with
  | false => exact h
  | true =>
    obtain ⟨a, h1, h2, h3, h4⟩ := h
    exact ⟨a, h1, h2, by rw [e a ((h4 a).mpr (.inr rfl)) h1, hs]; exact h3, h4⟩
theorem mdT.tl {m : Bool} {s : Sh} {H : Hp} {F : Addr → Prop} {p : Addr} {tl : List (Key × V)} (h : mdT m s H F p tl) : tl = [] ∨ ∃ a, tl = [((Sum.inr ("marks" : Str) : Key), V.ref a)] := by
  cases m with
  | false => exact .inl h.1
  | true =>
    obtain ⟨a, _, h, _⟩ := h
    exact .inr ⟨a, h⟩
def omd (K : PySem.W.Frag) (m : Bool) (s : Sh) : OwnA where
  ok := fun _ H F p => ∃ tl, H p = some (.dK (mdV s ++ tl)) ∧ mdT m s H F p tl
  mono := fun _ h => h
  loc := fun {Hb H H' F p} e ⟨tl, h1, h2⟩ => ⟨tl, by rw [e p h2.root]; exact h1, h2.loc rfl fun a ha _ => e a ha⟩
  root := fun {Hb H F p} ⟨tl, h1, h2⟩ => ⟨(by rw [h1]; exact (fun z => nomatch z)), h2.root⟩
theorem valV_app {a b : List (Key × V)} {k : Key} {v : V} (h : valV a k = some v) : valV (a ++ b) k = some v := by
  induction a with
  | nil => exact nomatch h
  | cons q r ih =>
    rw [List.cons_append]
    by_cases e : q.1 = k
    · rw [valV_pos e] at h ⊢
      exact h
    · rw [valV_neg e] at h ⊢
      exact ih h
section
variable {K : PySem.W.Frag} {E : WX} {δ : Dl} {P : PX} {N : Dl → Prop} {R : PX} {X : XX} {i : Nat} {p : Addr} {s : Sh} {m : Bool}
theorem w_md {z : Str} {l : List Nat} {v : V} {d : Da} (hi : δ[i]? = some (some (.o p (omd K m s)))) (hv : valV (mdV s) (.inr z) = some v) (hd : ∀ H, Rp K H v d) (k : P (.d d) δ) : W K E (tDGet (tVar i) (tK l z)) δ P X := fun w σ Hb H sd Q q _ => by
  obtain ⟨u, h1, h2, tl, h3, h4⟩ := sd.val i _ hi
  subst h2
  refine ⟨.ref p, h1, p, v, rfl, ?_, q _ δ _ w Hb H k sd (hd Hb) (Fm.refl _ _ _)⟩
  have := DGet.k (H := H) (a := p) (k := (.inr z : Key)) h3
  rw [valV_app hv] at this
  exact this
theorem t_md {z : Str} {l : List Nat} {tv : TE} (h : W K E tv δ (fun y δ1 => ∃ (d : Da) (p : Addr) (s s' : Sh) (m : Bool), y = .d d ∧ δ1[i]? = some (some (.o p (omd K m s))) ∧ s'.marked = s.marked ∧ (∀ H v, Rp K H v d → ∀ tl, (tl = [] ∨ ∃ a, tl = [((Sum.inr ("marks" : Str) : Key), V.ref a)]) → putK (mdV s ++ tl) (.inr z) v = mdV s' ++ tl) ∧ N (δ1.set i (some (.o p (omd K m s'))))) X) : T K E (sDPut (tVar i) (tK l z) tv) δ N R X := fun w σ Hb H D sd n r e => by
  refine h w σ Hb H sd _ (fun y δ1 v w1 Hb1 H1 ⟨d, p, s, s', m, ey, hi, hm, hp, k⟩ s1 r1 f1 => ?_) (e σ)
  subst ey
  obtain ⟨u, h1, h2, tl, h3, h4⟩ := s1.val i _ hi
  subst h2
  refine ⟨.ref p, h1, p, _, rfl, DPut.k (k := (.inr z : Key)) h3 (szl (by rw [List.length_append]; rcases h4.tl with rfl | ⟨a, rfl⟩; (show 8 + 0 < 16000001; decide); (show 8 + 1 < 16000001; decide))), ?_⟩
  rw [hp Hb1 v r1 tl h4.tl]
  obtain ⟨s3, f3⟩ := s1.turn0 (A' := omd K m s') (H' := upd H1 p (.dK (mdV s' ++ tl))) hi (fun a o ha hn => by rw [upd_ne (fun z => hn (by rw [z]; exact h4.root))]; exact ha) (fun a ha => by
    by_cases z : a = p
    · subst z
      rw [upd_same]
      exact fun z => nomatch z
    · rw [upd_ne z]
      exact ha) ⟨tl, upd_same, h4.loc hm fun a _ hne => upd_ne hne⟩
  exact n _ _ _ _ _ k s3 (f1.trans f3)
theorem w_m_text {l : List Nat} (hi : δ[i]? = some (some (.o p (omd K m s)))) (k : P (.d (.str s.now)) δ) : W K E (tDGet (tVar i) (tK l "text")) δ P X := w_md hi rfl (fun _ => .str _) k
theorem t_m_text {l : List Nat} {tv : TE} (h : W K E tv δ (fun y δ1 => ∃ (d : List Nat) (p : Addr) (s : Sh) (m : Bool), y = .d (.str d) ∧ δ1[i]? = some (some (.o p (omd K m s))) ∧ N (δ1.set i (some (.o p (omd K m { s with now := d }))))) X) : T K E (sDPut (tVar i) (tK l "text") tv) δ N R X := t_md (h.imp fun y δ1 ⟨d, p, s, m, ey, hi, k⟩ => ⟨_, p, s, { s with now := d }, m, ey, hi, rfl, fun _ _ r tl ht => by cases r; rcases ht with rfl | ⟨a, rfl⟩ <;> rfl, k⟩)
theorem w_m_width {l : List Nat} (hi : δ[i]? = some (some (.o p (omd K m s)))) (k : P (.d (.int s.width)) δ) : W K E (tDGet (tVar i) (tK l "width")) δ P X := w_md hi rfl (fun _ => .int _) k
theorem t_m_width {l : List Nat} {tv : TE} (h : W K E tv δ (fun y δ1 => ∃ (d : Nat) (p : Addr) (s : Sh) (m : Bool), y = .d (.int d) ∧ δ1[i]? = some (some (.o p (omd K m s))) ∧ N (δ1.set i (some (.o p (omd K m { s with width := d }))))) X) : T K E (sDPut (tVar i) (tK l "width") tv) δ N R X := t_md (h.imp fun y δ1 ⟨d, p, s, m, ey, hi, k⟩ => ⟨_, p, s, { s with width := d }, m, ey, hi, rfl, fun _ _ r tl ht => by cases r; rcases ht with rfl | ⟨a, rfl⟩ <;> rfl, k⟩)
theorem w_m_height {l : List Nat} (hi : δ[i]? = some (some (.o p (omd K m s)))) (k : P (.d (.int s.height)) δ) : W K E (tDGet (tVar i) (tK l "height")) δ P X := w_md hi rfl (fun _ => .int _) k
theorem t_m_height {l : List Nat} {tv : TE} (h : W K E tv δ (fun y δ1 => ∃ (d : Nat) (p : Addr) (s : Sh) (m : Bool), y = .d (.int d) ∧ δ1[i]? = some (some (.o p (omd K m s))) ∧ N (δ1.set i (some (.o p (omd K m { s with height := d }))))) X) : T K E (sDPut (tVar i) (tK l "height") tv) δ N R X := t_md (h.imp fun y δ1 ⟨d, p, s, m, ey, hi, k⟩ => ⟨_, p, s, { s with height := d }, m, ey, hi, rfl, fun _ _ r tl ht => by cases r; rcases ht with rfl | ⟨a, rfl⟩ <;> rfl, k⟩)
theorem w_m_caret {l : List Nat} (hi : δ[i]? = some (some (.o p (omd K m s)))) (k : P (.d (.int s.caret)) δ) : W K E (tDGet (tVar i) (tK l "caret")) δ P X := w_md hi rfl (fun _ => .int _) k
theorem t_m_caret {l : List Nat} {tv : TE} (h : W K E tv δ (fun y δ1 => ∃ (d : Nat) (p : Addr) (s : Sh) (m : Bool), y = .d (.int d) ∧ δ1[i]? = some (some (.o p (omd K m s))) ∧ N (δ1.set i (some (.o p (omd K m { s with caret := d }))))) X) : T K E (sDPut (tVar i) (tK l "caret") tv) δ N R X := t_md (h.imp fun y δ1 ⟨d, p, s, m, ey, hi, k⟩ => ⟨_, p, s, { s with caret := d }, m, ey, hi, rfl, fun _ _ r tl ht => by cases r; rcases ht with rfl | ⟨a, rfl⟩ <;> rfl, k⟩)
theorem w_m_back {l : List Nat} (hi : δ[i]? = some (some (.o p (omd K m s)))) (k : P (.d (.bl s.back)) δ) : W K E (tDGet (tVar i) (tK l "back")) δ P X := w_md hi rfl (fun _ => .bl _) k
theorem t_m_back {l : List Nat} {tv : TE} (h : W K E tv δ (fun y δ1 => ∃ (d : Bool) (p : Addr) (s : Sh) (m : Bool), y = .d (.bl d) ∧ δ1[i]? = some (some (.o p (omd K m s))) ∧ N (δ1.set i (some (.o p (omd K m { s with back := d }))))) X) : T K E (sDPut (tVar i) (tK l "back") tv) δ N R X := t_md (h.imp fun y δ1 ⟨d, p, s, m, ey, hi, k⟩ => ⟨_, p, s, { s with back := d }, m, ey, hi, rfl, fun _ _ r tl ht => by cases r; rcases ht with rfl | ⟨a, rfl⟩ <;> rfl, k⟩)
theorem w_m_anchor {l : List Nat} (hi : δ[i]? = some (some (.o p (omd K m s)))) (k : P (.d (.int s.anchor)) δ) : W K E (tDGet (tVar i) (tK l "anchor")) δ P X := w_md hi rfl (fun _ => .int _) k
theorem t_m_anchor {l : List Nat} {tv : TE} (h : W K E tv δ (fun y δ1 => ∃ (d : Nat) (p : Addr) (s : Sh) (m : Bool), y = .d (.int d) ∧ δ1[i]? = some (some (.o p (omd K m s))) ∧ N (δ1.set i (some (.o p (omd K m { s with anchor := d }))))) X) : T K E (sDPut (tVar i) (tK l "anchor") tv) δ N R X := t_md (h.imp fun y δ1 ⟨d, p, s, m, ey, hi, k⟩ => ⟨_, p, s, { s with anchor := d }, m, ey, hi, rfl, fun _ _ r tl ht => by cases r; rcases ht with rfl | ⟨a, rfl⟩ <;> rfl, k⟩)
theorem w_m_wish {l : List Nat} (hi : δ[i]? = some (some (.o p (omd K m s)))) (k : P (.d (wD s.wish)) δ) : W K E (tDGet (tVar i) (tK l "wish")) δ P X := w_md hi rfl (fun _ => rp_wV _) k
theorem t_m_wish {l : List Nat} {tv : TE} (h : W K E tv δ (fun y δ1 => ∃ (d : Option Nat) (p : Addr) (s : Sh) (m : Bool), y = .d (wD d) ∧ δ1[i]? = some (some (.o p (omd K m s))) ∧ N (δ1.set i (some (.o p (omd K m { s with wish := d }))))) X) : T K E (sDPut (tVar i) (tK l "wish") tv) δ N R X := t_md (h.imp fun y δ1 ⟨d, p, s, m, ey, hi, k⟩ => ⟨_, p, s, { s with wish := d }, m, ey, hi, rfl, fun _ _ r tl ht => by rw [wV_of r]; rcases ht with rfl | ⟨a, rfl⟩ <;> rfl, k⟩)
theorem w_m_first {l : List Nat} (hi : δ[i]? = some (some (.o p (omd K m s)))) (k : P (.d (.int s.first)) δ) : W K E (tDGet (tVar i) (tK l "first")) δ P X := w_md hi rfl (fun _ => .int _) k
theorem t_m_first {l : List Nat} {tv : TE} (h : W K E tv δ (fun y δ1 => ∃ (d : Nat) (p : Addr) (s : Sh) (m : Bool), y = .d (.int d) ∧ δ1[i]? = some (some (.o p (omd K m s))) ∧ N (δ1.set i (some (.o p (omd K m { s with first := d }))))) X) : T K E (sDPut (tVar i) (tK l "first") tv) δ N R X := t_md (h.imp fun y δ1 ⟨d, p, s, m, ey, hi, k⟩ => ⟨_, p, s, { s with first := d }, m, ey, hi, rfl, fun _ _ r tl ht => by cases r; rcases ht with rfl | ⟨a, rfl⟩ <;> rfl, k⟩)
/-- the model is made -/
def md0 (t : List Nat) (w h : Nat) : Sh := ⟨t, w, h, 0, false, 0, none, 0, []⟩
def sp__law_sheet (K : PySem.W.Frag) : Sp := fun vs H Q _ => ∃ (t : List Nat) (w h : Nat), vs = [.str (S t), .int w, .int h] ∧ ∀ p, H p = none → Q (.ref p) (upd H p (.dK (mdV (md0 t w h))))
theorem len__law_sheet {K : PySem.W.Frag} : ∀ vs H Q E, sp__law_sheet K vs H Q E → vs.length = 3 := by
  rintro vs H Q E ⟨t, w, h, rfl, _⟩
  rfl
theorem t_newM {ta : TA} {E' : XK} (h : WD K E ta δ (fun ds δ1 => ∃ (t : List Nat) (w h : Nat), ds = [.str t, .int w, .int h] ∧ ∀ p, N (δ1.set i (some (.o p (omd K false (md0 t w h)))))) X) : T K E (tAsgN (tCall (sp__law_sheet K) [] E' ta) (gName i)) δ N R X := fun w σ Hb H D sd n r e => by
  refine h w σ Hb H sd _ (fun ds δ1 vs w1 Hb1 H1 ⟨t, a, b, ed, k⟩ s1 r1 f1 => ?_) (e σ)
  subst ed
  have ev : vs = [.str (S t), .int a, .int b] := by
    cases r1 with
    | cons x r => cases x; cases r with
      | cons x r => cases x; cases r with
        | cons x r => cases x; cases r; rfl
  subst ev
  refine ⟨t, a, b, rfl, fun p hp => ?_⟩
  obtain ⟨s2, f2⟩ := s1.setOwn (i := i) (A := omd K false (md0 t a b)) (H' := upd H1 p (.dK (mdV (md0 t a b)))) (F := fun a => a = p) hp (fun a ha => by rw [ha]; exact hp) (same_new hp) (fun a ha => by rw [ha, upd_same]; exact fun z => nomatch z) ⟨[], by rw [List.append_nil]; exact upd_same, rfl, fun a => Iff.rfl⟩
  exact n _ _ _ _ _ (k p) s2 (f1.trans f2)
end
end Cr

namespace Cr
open PySem L2
local macro_rules | `(tactic| walk_at "x") => `(tactic| first | with_reducible refine t_seq ?_ | with_reducible refine t_ret ?_ | with_reducible refine t_set ?_ | with_reducible refine t_drop ?_ | with_reducible refine t_if ?_ | with_reducible refine t_next ?_ | with_reducible refine t_raise ?_ | with_reducible refine t_asg ?_ | with_reducible refine t_retN ?_ | with_reducible refine w_op ?_ | ((with_reducible refine' w_var ?h ?_); (case h => rfl)) | ((with_reducible refine' w_own ?h ?_); (case h => rfl)) | with_reducible refine w_int ?_ | ((with_reducible refine' w_k ?h ?_); (case h => decide +kernel)) | with_reducible refine w_bl ?_ | with_reducible refine w_non ?_ | with_reducible refine w_if ?_ | with_reducible refine w_andV ?_ | with_reducible refine w_orV ?_ | with_reducible refine w_notV ?_ | with_reducible refine w_tup ?_ | with_reducible refine w_lst ?_ | with_reducible refine w_cb ?_ | with_reducible refine w_chain ?_ | with_reducible refine w_slS ?_ | with_reducible refine w_slL ?_ | with_reducible refine w_find1 ?_ | with_reducible refine w_find2 ?_ | with_reducible refine w_rfind1 ?_ | with_reducible refine w_rfind3 ?_ | with_reducible refine w_neg ?_ | with_reducible refine w_ref ?_ | with_reducible refine w_ty ?_ | with_reducible refine wt_test ?_ | with_reducible refine wt_B ?_ | with_reducible refine wt_and ?_ | with_reducible refine wt_or ?_ | with_reducible refine wt_not ?_ | with_reducible refine wt_yes ?_ | with_reducible refine wd_nil ?_ | with_reducible refine wd_cons ?_ | with_reducible refine wa_nil ?_ | with_reducible refine wa_cons ?_ | with_reducible refine wo_none ?_ | with_reducible refine wo_some ?_ | with_reducible refine rd_I0i ?_ | with_reducible refine rd_I0b ?_ | with_reducible refine rd_eqI ?_ | with_reducible refine rd_neI ?_ | with_reducible refine rd_eqS ?_ | with_reducible refine rd_neS ?_ | with_reducible refine rd_isN ?_ | with_reducible refine rd_notN ?_ | with_reducible refine rd_inSign ?_ | with_reducible refine cd_lenL ?_ | ((with_reducible refine' cd_lenS ?h ?_); (case h => first | assumption | omega)) | with_reducible refine cd_lenT ?_ | with_reducible refine cd_lenR ?_ | with_reducible refine cd_abs ?_ | with_reducible refine cd_max2 ?_ | with_reducible refine cd_min2 ?_ | with_reducible refine cd_intB ?_ | with_reducible refine cd_ord ?_ | with_reducible refine g_name ?_ | with_reducible refine ⟨_, rfl, ?_⟩ | with_reducible refine rd_leS ?_ | ((with_reducible refine' w_now ?C ?h ?_); (case C => assumption); (case h => rfl)) | ((with_reducible refine' w_width ?C ?h ?_); (case C => assumption); (case h => rfl)) | ((with_reducible refine' w_height ?C ?h ?_); (case C => assumption); (case h => rfl)) | ((with_reducible refine' w_caret ?C ?h ?_); (case C => assumption); (case h => rfl)) | ((with_reducible refine' w_is_back ?C ?h ?_); (case C => assumption); (case h => rfl)) | ((with_reducible refine' w_anchor ?C ?h ?_); (case C => assumption); (case h => rfl)) | ((with_reducible refine' w_wish ?C ?h ?_); (case C => assumption); (case h => rfl)) | ((with_reducible refine' w_first ?C ?h ?_); (case C => assumption); (case h => rfl)))
local macro_rules | `(tactic| walk_at "xs") => `(tactic| repeat (first | with_reducible refine t_seq ?_ | with_reducible refine t_ret ?_ | with_reducible refine t_set ?_ | with_reducible refine t_drop ?_ | with_reducible refine t_if ?_ | with_reducible refine t_next ?_ | with_reducible refine t_raise ?_ | with_reducible refine t_asg ?_ | with_reducible refine t_retN ?_ | with_reducible refine w_op ?_ | ((with_reducible refine' w_var ?h ?_); (case h => rfl)) | ((with_reducible refine' w_own ?h ?_); (case h => rfl)) | with_reducible refine w_int ?_ | ((with_reducible refine' w_k ?h ?_); (case h => decide +kernel)) | with_reducible refine w_bl ?_ | with_reducible refine w_non ?_ | with_reducible refine w_if ?_ | with_reducible refine w_andV ?_ | with_reducible refine w_orV ?_ | with_reducible refine w_notV ?_ | with_reducible refine w_tup ?_ | with_reducible refine w_lst ?_ | with_reducible refine w_cb ?_ | with_reducible refine w_chain ?_ | with_reducible refine w_slS ?_ | with_reducible refine w_slL ?_ | with_reducible refine w_find1 ?_ | with_reducible refine w_find2 ?_ | with_reducible refine w_rfind1 ?_ | with_reducible refine w_rfind3 ?_ | with_reducible refine w_neg ?_ | with_reducible refine w_ref ?_ | with_reducible refine w_ty ?_ | with_reducible refine wt_test ?_ | with_reducible refine wt_B ?_ | with_reducible refine wt_and ?_ | with_reducible refine wt_or ?_ | with_reducible refine wt_not ?_ | with_reducible refine wt_yes ?_ | with_reducible refine wd_nil ?_ | with_reducible refine wd_cons ?_ | with_reducible refine wa_nil ?_ | with_reducible refine wa_cons ?_ | with_reducible refine wo_none ?_ | with_reducible refine wo_some ?_ | with_reducible refine rd_I0i ?_ | with_reducible refine rd_I0b ?_ | with_reducible refine rd_eqI ?_ | with_reducible refine rd_neI ?_ | with_reducible refine rd_eqS ?_ | with_reducible refine rd_neS ?_ | with_reducible refine rd_isN ?_ | with_reducible refine rd_notN ?_ | with_reducible refine rd_inSign ?_ | with_reducible refine cd_lenL ?_ | ((with_reducible refine' cd_lenS ?h ?_); (case h => first | assumption | omega)) | with_reducible refine cd_lenT ?_ | with_reducible refine cd_lenR ?_ | with_reducible refine cd_abs ?_ | with_reducible refine cd_max2 ?_ | with_reducible refine cd_min2 ?_ | with_reducible refine cd_intB ?_ | with_reducible refine cd_ord ?_ | with_reducible refine g_name ?_ | with_reducible refine ⟨_, rfl, ?_⟩ | with_reducible refine rd_leS ?_ | ((with_reducible refine' w_now ?C ?h ?_); (case C => assumption); (case h => rfl)) | ((with_reducible refine' w_width ?C ?h ?_); (case C => assumption); (case h => rfl)) | ((with_reducible refine' w_height ?C ?h ?_); (case C => assumption); (case h => rfl)) | ((with_reducible refine' w_caret ?C ?h ?_); (case C => assumption); (case h => rfl)) | ((with_reducible refine' w_is_back ?C ?h ?_); (case C => assumption); (case h => rfl)) | ((with_reducible refine' w_anchor ?C ?h ?_); (case C => assumption); (case h => rfl)) | ((with_reducible refine' w_wish ?C ?h ?_); (case C => assumption); (case h => rfl)) | ((with_reducible refine' w_first ?C ?h ?_); (case C => assumption); (case h => rfl)) | simp only [List.set_cons_succ, List.set_cons_zero]))
/-- a sheet's own conditions -/
structure Wf (s : Sh) : Prop where
  t : isText s.now = true
  w1 : 2 ≤ s.width
  w2 : s.width ≤ 200
  h1 : 1 ≤ s.height
  h2 : s.height ≤ 100
  c : s.caret ≤ s.now.length
  a : s.anchor ≤ s.now.length
/-- its text and sizes alone -/
structure Wt (s : Sh) : Prop where
  t : isText s.now = true
  w1 : 2 ≤ s.width
  w2 : s.width ≤ 200
  h1 : 1 ≤ s.height
  h2 : s.height ≤ 100
theorem Wf.wt {s : Sh} (h : Wf s) : Wt s := ⟨h.t, h.w1, h.w2, h.h1, h.h2⟩
abbrev rowsS (s : Sh) : List R3 := rowsW s.width s.now
theorem Wf.l {s : Sh} (h : Wf s) : s.now.length ≤ 2000 := text_len h.t
theorem Wf.ch {s : Sh} (h : Wf s) : Ch 0 (rowsS s) s.now.length := ch_rowsW h.w1 s.now
theorem Wf.rl {s : Sh} (h : Wf s) : (rowsS s).length ≤ 2001 := by
  have h1 := rowsW_len h.w1 s.now
  have h2 := h.l
  show (rowsW s.width s.now).length ≤ 2001
  omega
theorem Wt.l {s : Sh} (h : Wt s) : s.now.length ≤ 2000 := text_len h.t
theorem Wt.ch {s : Sh} (h : Wt s) : Ch 0 (rowsS s) s.now.length := ch_rowsW h.w1 s.now
theorem Wt.rl {s : Sh} (h : Wt s) : (rowsS s).length ≤ 2001 := by
  have h1 := rowsW_len h.w1 s.now
  have h2 := h.l
  show (rowsW s.width s.now).length ≤ 2001
  omega
theorem uq1 {p : Addr} {A : OwnA} : Uq [.o p A] := by
  rintro (_ | i) (_ | j) q B C h1 h2 <;> simp_all
/-- a method that only reads -/
def rdS (K : PySem.W.Frag) (g : Sh → (Da → Prop) → Prop) : FS := fun ys R _ => ∃ (p : Addr) (s : Sh), ys = [.o p (osh K s)] ∧ RwF K ∧ ShC K ∧ Wf s ∧ g s (fun d => R d [some (.o p (osh K s))])
theorem cl_rdS {K : PySem.W.Frag} {g : Sh → (Da → Prop) → Prop} {δ : Dl} {P : PX} {X : XX} {p : Addr} {s : Sh} {i : Nat} (hi : δ[i]? = some (some (.o p (osh K s)))) (F : RwF K) (C : ShC K) (wf : Wf s) (hs : δ.set i (some (.o p (osh K s))) = δ) (k : g s (fun d => P (.d d) δ)) : Cl (rdS K g) [.a p] δ P X :=
  ⟨_, [some i], .o hi .nil, uq1, p, s, rfl, F, C, wf, by
    have e : ∀ d, P (.d d) (updL δ [some i] [some (.o p (osh K s))]) = P (.d d) δ := fun d => by
      show P (.d d) (δ.set i (some (.o p (osh K s)))) = _
      rw [hs]
    simp only [e]
    exact k⟩
def rdT (K : PySem.W.Frag) (g : Sh → (Da → Prop) → Prop) : FS := fun ys R _ => ∃ (p : Addr) (s : Sh), ys = [.o p (osh K s)] ∧ RwF K ∧ ShC K ∧ Wt s ∧ g s (fun d => R d [some (.o p (osh K s))])
theorem cl_rdT {K : PySem.W.Frag} {g : Sh → (Da → Prop) → Prop} {δ : Dl} {P : PX} {X : XX} {p : Addr} {s : Sh} {i : Nat} (hi : δ[i]? = some (some (.o p (osh K s)))) (F : RwF K) (C : ShC K) (wf : Wt s) (hs : δ.set i (some (.o p (osh K s))) = δ) (k : g s (fun d => P (.d d) δ)) : Cl (rdT K g) [.a p] δ P X :=
  ⟨_, [some i], .o hi .nil, uq1, p, s, rfl, F, C, wf, by
    have e : ∀ d, P (.d d) (updL δ [some i] [some (.o p (osh K s))]) = P (.d d) δ := fun d => by
      show P (.d d) (δ.set i (some (.o p (osh K s)))) = _
      rw [hs]
    simp only [e]
    exact k⟩
def f_Sheet_text (K : PySem.W.Frag) : FS := rdS K fun s R => R (.str s.now)
abbrev sp_Sheet_text (K : PySem.W.Frag) : Sp := SpOf K (f_Sheet_text K)
def t_Sheet_text (K : PySem.W.Frag) (E : XK) : TS := (tRet (tFld K (tVar 0) "now"))
theorem len_f_Sheet_text {K : PySem.W.Frag} : ∀ ds R X, f_Sheet_text K ds R X → ds.length = 1 := by
  rintro ds R X ⟨_, _, rfl, _⟩
  rfl
theorem len_Sheet_text {K : PySem.W.Frag} : ∀ vs H Q E, sp_Sheet_text K vs H Q E → vs.length = 1 := fun _ _ _ _ h => spOf_len len_f_Sheet_text h
theorem pure_Sheet_text {K : PySem.W.Frag} {vs : List V} {H : Hp} {Q : VK} {E : XK} (h : sp_Sheet_text K vs H Q E) : t_Sheet_text K E { nx := fun _ H' => Q .non H', rt := Q } (L2.start ["self"] vs) H := by
  refine body (ts := t_Sheet_text K) 1 0 rfl len_f_Sheet_text (fun ds R X ⟨p, s, e, F, C, wf, hk⟩ => ?_) h
  subst e
  show T K _ (t_Sheet_text K E) [some (.o p (osh K s))] _ _ _
  unfold t_Sheet_text
  walk_at "xs"
  exact ⟨hk, rfl, trivial⟩
def f_Sheet_rows (K : PySem.W.Frag) : FS := rdT K fun s R => R (.lst ((rowsS s).map dR))
abbrev sp_Sheet_rows (K : PySem.W.Frag) : Sp := SpOf K (f_Sheet_rows K)
def t_Sheet_rows (K : PySem.W.Frag) (E : XK) : TS := (tRet (tCall (sp_rows_of K) [] L2.E0 (tCons (tFld K (tVar 0) "now") (tCons (tFld K (tVar 0) "width") tNil))))
theorem len_f_Sheet_rows {K : PySem.W.Frag} : ∀ ds R X, f_Sheet_rows K ds R X → ds.length = 1 := by
  rintro ds R X ⟨_, _, rfl, _⟩
  rfl
theorem len_Sheet_rows {K : PySem.W.Frag} : ∀ vs H Q E, sp_Sheet_rows K vs H Q E → vs.length = 1 := fun _ _ _ _ h => spOf_len len_f_Sheet_rows h
theorem pure_Sheet_rows {K : PySem.W.Frag} {vs : List V} {H : Hp} {Q : VK} {E : XK} (h : sp_Sheet_rows K vs H Q E) : t_Sheet_rows K E { nx := fun _ H' => Q .non H', rt := Q } (L2.start ["self"] vs) H := by
  refine body (ts := t_Sheet_rows K) 1 0 rfl len_f_Sheet_rows (fun ds R X ⟨p, s, e, F, C, wf, hk⟩ => ?_) h
  subst e
  show T K _ (t_Sheet_rows K E) [some (.o p (osh K s))] _ _ _
  unfold t_Sheet_rows
  walk_at "xs"
  refine w_fn ?_
  walk_at "xs"
  exact ⟨s.now, s.width, rfl, F, wf.l, wf.w1, hk, rfl, trivial⟩
def chD (s : Sh) : Da := .tup [.int ((min s.caret s.anchor : Nat) : Int), .int ((max s.caret s.anchor : Nat) : Int)]
def f_Sheet_chosen (K : PySem.W.Frag) : FS := rdS K fun s R => R (chD s)
abbrev sp_Sheet_chosen (K : PySem.W.Frag) : Sp := SpOf K (f_Sheet_chosen K)
def t_Sheet_chosen (K : PySem.W.Frag) (E : XK) : TS := (tRet (tTup (tCons (tCB rMn2 (tCons (tFld K (tVar 0) "caret") (tCons (tFld K (tVar 0) "anchor") tNil))) (tCons (tCB rMx2 (tCons (tFld K (tVar 0) "caret") (tCons (tFld K (tVar 0) "anchor") tNil))) tNil))))
theorem len_f_Sheet_chosen {K : PySem.W.Frag} : ∀ ds R X, f_Sheet_chosen K ds R X → ds.length = 1 := by
  rintro ds R X ⟨_, _, rfl, _⟩
  rfl
theorem len_Sheet_chosen {K : PySem.W.Frag} : ∀ vs H Q E, sp_Sheet_chosen K vs H Q E → vs.length = 1 := fun _ _ _ _ h => spOf_len len_f_Sheet_chosen h
theorem mn2 (a b : Nat) : (if (b : Int) < (a : Int) then (b : Int) else (a : Int)) = ((min a b : Nat) : Int) := by split <;> omega
theorem mx2 (a b : Nat) : (if (b : Int) > (a : Int) then (b : Int) else (a : Int)) = ((max a b : Nat) : Int) := by split <;> omega
theorem pure_Sheet_chosen {K : PySem.W.Frag} {vs : List V} {H : Hp} {Q : VK} {E : XK} (h : sp_Sheet_chosen K vs H Q E) : t_Sheet_chosen K E { nx := fun _ H' => Q .non H', rt := Q } (L2.start ["self"] vs) H := by
  refine body (ts := t_Sheet_chosen K) 1 0 rfl len_f_Sheet_chosen (fun ds R X ⟨p, s, e, F, C, wf, hk⟩ => ?_) h
  subst e
  show T K _ (t_Sheet_chosen K E) [some (.o p (osh K s))] _ _ _
  unfold t_Sheet_chosen
  walk_at "xs"
  rw [mn2, mx2]
  exact ⟨by show 2 ≤ 16000000; decide, hk, rfl, trivial⟩
def f_Sheet_chosen_text (K : PySem.W.Frag) : FS := rdS K fun s R => R (.str ((s.now.drop (min s.caret s.anchor)).take (max s.caret s.anchor - min s.caret s.anchor)))
abbrev sp_Sheet_chosen_text (K : PySem.W.Frag) : Sp := SpOf K (f_Sheet_chosen_text K)
def t_Sheet_chosen_text (K : PySem.W.Frag) (E : XK) : TS := (tSeq (tAsg (tMeth (He.ga K "Sheet") "chosen" (sp_Sheet_chosen K) [] L2.E0 (tVar 0) tNil) (gTup K 2 (gCons (gName 1) (gCons (gName 2) gNil))))
  (tRet (tSl rSlS (tFld K (tVar 0) "now") (tPart (tVar 1)) (tPart (tVar 2)))))
theorem len_f_Sheet_chosen_text {K : PySem.W.Frag} : ∀ ds R X, f_Sheet_chosen_text K ds R X → ds.length = 1 := by
  rintro ds R X ⟨_, _, rfl, _⟩
  rfl
theorem len_Sheet_chosen_text {K : PySem.W.Frag} : ∀ vs H Q E, sp_Sheet_chosen_text K vs H Q E → vs.length = 1 := fun _ _ _ _ h => spOf_len len_f_Sheet_chosen_text h
theorem pure_Sheet_chosen_text {K : PySem.W.Frag} {vs : List V} {H : Hp} {Q : VK} {E : XK} (h : sp_Sheet_chosen_text K vs H Q E) : t_Sheet_chosen_text K E { nx := fun _ H' => Q .non H', rt := Q } (L2.start ["self", "first", "last"] vs) H := by
  refine body (ts := t_Sheet_chosen_text K) 1 2 rfl len_f_Sheet_chosen_text (fun ds R X ⟨p, s, e, F, C, wf, hk⟩ => ?_) h
  subst e
  show T K _ (t_Sheet_chosen_text K E) [some (.o p (osh K s)), none, none] _ _ _
  unfold t_Sheet_chosen_text
  walk_at "xs"
  refine w_meth (by decide) ?_
  walk_at "xs"
  refine ⟨_, 0, s, rfl, rfl, wa_nil (cl_rdS (i := 0) rfl F C wf rfl ⟨_, rfl, ?_⟩)⟩
  refine g_tup rfl (gs_cons (g_name (gs_cons (g_name (gs_nil ?_)))))
  have hl := wf.l
  walk_at "xs"
  refine ⟨by omega, ?_⟩
  walk_at "xs"
  rw [cut_nat]
  exact ⟨hk, rfl, trivial⟩
def atD (s : Sh) : Da := .tup [.int s.caret, .int ((rowAt (rowsS s) s.caret s.back : Nat) : Int), .int ((colOf s.now ((rowsS s).getD (rowAt (rowsS s) s.caret s.back) (0, 0, false)).1 s.caret : Nat) : Int)]
def f_Sheet_at (K : PySem.W.Frag) : FS := rdS K fun s R => R (atD s)
abbrev sp_Sheet_at (K : PySem.W.Frag) : Sp := SpOf K (f_Sheet_at K)
def t_Sheet_at (K : PySem.W.Frag) (E : XK) : TS := (tSeq (tAsg (tMeth (He.ga K "Sheet") "rows" (sp_Sheet_rows K) [] L2.E0 (tVar 0) tNil) (gName 1))
  (tSeq (tAsg (tCall (sp_row_at K) [] L2.E0 (tCons (tVar 1) (tCons (tFld K (tVar 0) "caret") (tCons (tFld K (tVar 0) "is_back") tNil)))) (gName 2))
  (tRet (tTup (tCons (tFld K (tVar 0) "caret") (tCons (tVar 2) (tCons (tCall (sp_column_of K) [] L2.E0 (tCons (tFld K (tVar 0) "now") (tCons (tOp (rIxL K) (tVar 1) (tVar 2)) (tCons (tFld K (tVar 0) "caret") tNil)))) tNil)))))))
theorem len_f_Sheet_at {K : PySem.W.Frag} : ∀ ds R X, f_Sheet_at K ds R X → ds.length = 1 := by
  rintro ds R X ⟨_, _, rfl, _⟩
  rfl
theorem len_Sheet_at {K : PySem.W.Frag} : ∀ vs H Q E, sp_Sheet_at K vs H Q E → vs.length = 1 := fun _ _ _ _ h => spOf_len len_f_Sheet_at h
theorem pure_Sheet_at {K : PySem.W.Frag} {vs : List V} {H : Hp} {Q : VK} {E : XK} (h : sp_Sheet_at K vs H Q E) : t_Sheet_at K E { nx := fun _ H' => Q .non H', rt := Q } (L2.start ["self", "rows", "number"] vs) H := by
  refine body (ts := t_Sheet_at K) 1 2 rfl len_f_Sheet_at (fun ds R X ⟨p, s, e, F, C, wf, hk⟩ => ?_) h
  subst e
  show T K _ (t_Sheet_at K E) [some (.o p (osh K s)), none, none] _ _ _
  unfold t_Sheet_at
  have hl := wf.l
  have ch := wf.ch
  have rl := wf.rl
  have hk : R (atD s) [some (.o p (osh K s))] := hk
  unfold atD at hk
  walk_at "xs"
  refine w_meth (by decide) ?_
  walk_at "xs"
  refine ⟨_, 0, s, rfl, rfl, wa_nil (cl_rdT (i := 0) rfl F C wf.wt rfl ⟨_, rfl, ?_⟩)⟩
  generalize rowsS s = L at hk ch rl ⊢
  have hlt := rowAt_lt ch.ne s.caret s.back
  obtain ⟨r, hr⟩ : ∃ r, L[rowAt L s.caret s.back]? = some r := ⟨_, List.getElem?_eq_getElem hlt⟩
  have hrd : (L.map dR)[rowAt L s.caret s.back]? = some (dR r) := by rw [List.getElem?_map, hr]; rfl
  have hg : L.getD (rowAt L s.caret s.back) (0, 0, false) = r := by rw [List.getD_eq_getElem?_getD, hr]; rfl
  rw [hg] at hk
  walk_at "xs"
  refine w_fn ?_
  walk_at "xs"
  refine ⟨L, s.caret, s.back, rfl, F, ch.ne, by omega, ?_⟩
  walk_at "xs"
  refine w_fn ?_
  walk_at "xs"
  refine rd_ixL (atI_nat hrd) ⟨_, rfl, ?_⟩
  walk_at "xs"
  refine ⟨s.now, r.1, r.2.1, r.2.2, s.caret, rfl, F, hl, ?_⟩
  walk_at "xs"
  exact ⟨by show 3 ≤ 16000000; decide, hk, rfl, trivial⟩
/-! ### what is shown -/
def scrollN (L : List R3) (c : Nat) (b : Bool) (h f : Nat) : Nat :=
  let n := rowAt L c b
  let f1 := min f (L.length - 1)
  let f2 := if n < f1 then n else f1
  if f2 + h ≤ n then n - h + 1 else f2
def scrollS (s : Sh) : Sh := { s with first := scrollN (rowsS s) s.caret s.back s.height s.first }
def f_Sheet_scroll (K : PySem.W.Frag) : FS := fun ys R _ => ∃ (p : Addr) (s : Sh), ys = [.o p (osh K s)] ∧ RwF K ∧ ShC K ∧ Wf s ∧ R .non [some (.o p (osh K (scrollS s)))]
abbrev sp_Sheet_scroll (K : PySem.W.Frag) : Sp := SpOf K (f_Sheet_scroll K)
def t_Sheet_scroll (K : PySem.W.Frag) (E : XK) : TS := (tSeq (tAsg (tMeth (He.ga K "Sheet") "rows" (sp_Sheet_rows K) [] L2.E0 (tVar 0) tNil) (gName 1))
  (tSeq (tAsg (tCall (sp_row_at K) [] L2.E0 (tCons (tVar 1) (tCons (tFld K (tVar 0) "caret") (tCons (tFld K (tVar 0) "is_back") tNil)))) (gName 2))
  (tSeq (sFld K (tVar 0) (tCB rMx2 (tCons (tC (.int 0)) (tCons (tCB rMn2 (tCons (tFld K (tVar 0) "first") (tCons (tOp rMinus (tCB (rLen K) (tCons (tVar 1) tNil)) (tC (.int 1))) tNil))) tNil))) "first")
  (tSeq (tIfS (tTest (tOp rLt' (tVar 2) (tFld K (tVar 0) "first"))) (sFld K (tVar 0) (tVar 2) "first") tNext)
  (tIfS (tTest (tOp rGe' (tVar 2) (tOp rPlus (tFld K (tVar 0) "first") (tFld K (tVar 0) "height")))) (sFld K (tVar 0) (tOp rPlus (tOp rMinus (tVar 2) (tFld K (tVar 0) "height")) (tC (.int 1))) "first") tNext)))))
theorem len_f_Sheet_scroll {K : PySem.W.Frag} : ∀ ds R X, f_Sheet_scroll K ds R X → ds.length = 1 := by
  rintro ds R X ⟨_, _, rfl, _⟩
  rfl
theorem len_Sheet_scroll {K : PySem.W.Frag} : ∀ vs H Q E, sp_Sheet_scroll K vs H Q E → vs.length = 1 := fun _ _ _ _ h => spOf_len len_f_Sheet_scroll h
theorem cl_scroll {K : PySem.W.Frag} {δ : Dl} {P : PX} {X : XX} {p : Addr} {s : Sh} {i : Nat} (hi : δ[i]? = some (some (.o p (osh K s)))) (F : RwF K) (C : ShC K) (wf : Wf s) (k : P (.d .non) (δ.set i (some (.o p (osh K (scrollS s)))))) : Cl (f_Sheet_scroll K) [.a p] δ P X :=
  ⟨_, [some i], .o hi .nil, uq1, p, s, rfl, F, C, wf, k⟩
theorem pure_Sheet_scroll {K : PySem.W.Frag} {vs : List V} {H : Hp} {Q : VK} {E : XK} (h : sp_Sheet_scroll K vs H Q E) : t_Sheet_scroll K E { nx := fun _ H' => Q .non H', rt := Q } (L2.start ["self", "rows", "number"] vs) H := by
  refine body (ts := t_Sheet_scroll K) 1 2 rfl len_f_Sheet_scroll (fun ds R X ⟨p, s, e, F, C, wf, hk⟩ => ?_) h
  subst e
  show T K _ (t_Sheet_scroll K E) [some (.o p (osh K s)), none, none] _ _ _
  unfold t_Sheet_scroll
  have ch := wf.ch
  have rl := wf.rl
  have hh := wf.h1
  walk_at "xs"
  refine w_meth (by decide) ?_
  walk_at "xs"
  refine ⟨_, 0, s, rfl, rfl, wa_nil (cl_rdT (i := 0) rfl F C wf.wt rfl ⟨_, rfl, ?_⟩)⟩
  have hk2 : R .non [some (.o p (osh K { s with first := scrollN (rowsS s) s.caret s.back s.height s.first }))] := hk
  generalize rowsS s = L at hk2 ch rl ⊢
  have hpos := List.length_pos_iff.mpr ch.ne
  walk_at "xs"
  refine w_fn ?_
  walk_at "xs"
  refine ⟨L, s.caret, s.back, rfl, F, ch.ne, by omega, ?_⟩
  unfold scrollN at hk2
  generalize rowAt L s.caret s.back = n at hk2 ⊢
  walk_at "xs"
  refine t_first C ?_
  walk_at "xs"
  rw [List.length_map]
  have e1 : (L.length : Int) - 1 = ((L.length - 1 : Nat) : Int) := by omega
  have e2 : (if ((min s.first (L.length - 1) : Nat) : Int) > 0 then ((min s.first (L.length - 1) : Nat) : Int) else 0) = ((min s.first (L.length - 1) : Nat) : Int) := by split <;> omega
  rw [e1, mn2, e2]
  refine ⟨_, p, s, rfl, rfl, ?_⟩
  simp only at hk2
  generalize min s.first (L.length - 1) = f1 at hk2 ⊢
  have second : ∀ f2 : Nat, R .non [some (.o p (osh K { s with first := if f2 + s.height ≤ n then n - s.height + 1 else f2 }))] → T K (fun c d _ H => E c d H) (tIfS (tTest (tOp rGe' (tVar 2) (tOp rPlus (tFld K (tVar 0) "first") (tFld K (tVar 0) "height")))) (sFld K (tVar 0) (tOp rPlus (tOp rMinus (tVar 2) (tFld K (tVar 0) "height")) (tC (.int 1))) "first") tNext)
      [some (.o p (osh K { s with first := f2 })), some (.d (.lst (L.map dR))), some (.d (.int (n : Int)))] (fun δ' => R .non (outs [Dx.o p (osh K s)] δ') ∧ keepP [Dx.o p (osh K s)] δ') (fun x δ' => RetD K 1 x δ' (fun d => R d (outs [Dx.o p (osh K s)] δ')) ∧ keepP [Dx.o p (osh K s)] δ') (fun C δ' => X C (outs [Dx.o p (osh K s)] δ') ∧ keepP [Dx.o p (osh K s)] δ') := fun f2 hf => by
    walk_at "xs"
    refine ⟨fun hb => ?_, fun hb => ?_⟩
    · have hb := of_decide_eq_true hb
      rw [if_pos (by omega)] at hf
      refine t_first C ?_
      walk_at "xs"
      have e3 : (n : Int) - (s.height : Int) + 1 = ((n - s.height + 1 : Nat) : Int) := by omega
      rw [e3]
      exact ⟨_, p, { s with first := f2 }, rfl, rfl, hf, rfl, trivial⟩
    · have hb := of_decide_eq_false hb
      rw [if_neg (by omega)] at hf
      exact t_next ⟨hf, rfl, trivial⟩
  show T K _ _ [some (.o p (osh K { s with first := f1 })), some (.d (.lst (L.map dR))), some (.d (.int (n : Int)))] _ _ _
  walk_at "xs"
  refine ⟨fun hb => ?_, fun hb => ?_⟩
  · have hb := of_decide_eq_true hb
    have hb2 : n < f1 := by omega
    simp only [if_pos hb2] at hk2
    refine t_first C ?_
    walk_at "xs"
    exact ⟨_, p, { s with first := f1 }, rfl, rfl, second n hk2⟩
  · have hb := of_decide_eq_false hb
    have hb2 : ¬ n < f1 := by omega
    simp only [if_neg hb2] at hk2
    exact t_next (second f1 hk2)
end Cr

namespace Cr
open PySem L2
local macro_rules | `(tactic| walk_at "x") => `(tactic| first | with_reducible refine t_seq ?_ | with_reducible refine t_ret ?_ | with_reducible refine t_set ?_ | with_reducible refine t_drop ?_ | with_reducible refine t_if ?_ | with_reducible refine t_next ?_ | with_reducible refine t_raise ?_ | with_reducible refine t_asg ?_ | with_reducible refine t_retN ?_ | with_reducible refine w_op ?_ | ((with_reducible refine' w_var ?h ?_); (case h => rfl)) | ((with_reducible refine' w_own ?h ?_); (case h => rfl)) | with_reducible refine w_int ?_ | ((with_reducible refine' w_k ?h ?_); (case h => decide +kernel)) | with_reducible refine w_bl ?_ | with_reducible refine w_non ?_ | with_reducible refine w_if ?_ | with_reducible refine w_andV ?_ | with_reducible refine w_orV ?_ | with_reducible refine w_notV ?_ | with_reducible refine w_tup ?_ | with_reducible refine w_lst ?_ | with_reducible refine w_cb ?_ | with_reducible refine w_chain ?_ | with_reducible refine w_slS ?_ | with_reducible refine w_slL ?_ | with_reducible refine w_find1 ?_ | with_reducible refine w_find2 ?_ | with_reducible refine w_rfind1 ?_ | with_reducible refine w_rfind3 ?_ | with_reducible refine w_neg ?_ | with_reducible refine w_ref ?_ | with_reducible refine w_ty ?_ | with_reducible refine wt_test ?_ | with_reducible refine wt_B ?_ | with_reducible refine wt_and ?_ | with_reducible refine wt_or ?_ | with_reducible refine wt_not ?_ | with_reducible refine wt_yes ?_ | with_reducible refine wd_nil ?_ | with_reducible refine wd_cons ?_ | with_reducible refine wa_nil ?_ | with_reducible refine wa_cons ?_ | with_reducible refine wo_none ?_ | with_reducible refine wo_some ?_ | with_reducible refine rd_I0i ?_ | with_reducible refine rd_I0b ?_ | with_reducible refine rd_eqI ?_ | with_reducible refine rd_neI ?_ | with_reducible refine rd_eqS ?_ | with_reducible refine rd_neS ?_ | with_reducible refine rd_isN ?_ | with_reducible refine rd_notN ?_ | with_reducible refine rd_inSign ?_ | with_reducible refine cd_lenL ?_ | ((with_reducible refine' cd_lenS ?h ?_); (case h => first | assumption | omega)) | with_reducible refine cd_lenT ?_ | with_reducible refine cd_lenR ?_ | with_reducible refine cd_abs ?_ | with_reducible refine cd_max2 ?_ | with_reducible refine cd_min2 ?_ | with_reducible refine cd_intB ?_ | with_reducible refine cd_ord ?_ | with_reducible refine g_name ?_ | with_reducible refine ⟨_, rfl, ?_⟩ | with_reducible refine rd_leS ?_ | ((with_reducible refine' w_now ?C ?h ?_); (case C => assumption); (case h => rfl)) | ((with_reducible refine' w_width ?C ?h ?_); (case C => assumption); (case h => rfl)) | ((with_reducible refine' w_height ?C ?h ?_); (case C => assumption); (case h => rfl)) | ((with_reducible refine' w_caret ?C ?h ?_); (case C => assumption); (case h => rfl)) | ((with_reducible refine' w_is_back ?C ?h ?_); (case C => assumption); (case h => rfl)) | ((with_reducible refine' w_anchor ?C ?h ?_); (case C => assumption); (case h => rfl)) | ((with_reducible refine' w_wish ?C ?h ?_); (case C => assumption); (case h => rfl)) | ((with_reducible refine' w_first ?C ?h ?_); (case C => assumption); (case h => rfl)))
local macro_rules | `(tactic| walk_at "xs") => `(tactic| repeat (first | with_reducible refine t_seq ?_ | with_reducible refine t_ret ?_ | with_reducible refine t_set ?_ | with_reducible refine t_drop ?_ | with_reducible refine t_if ?_ | with_reducible refine t_next ?_ | with_reducible refine t_raise ?_ | with_reducible refine t_asg ?_ | with_reducible refine t_retN ?_ | with_reducible refine w_op ?_ | ((with_reducible refine' w_var ?h ?_); (case h => rfl)) | ((with_reducible refine' w_own ?h ?_); (case h => rfl)) | with_reducible refine w_int ?_ | ((with_reducible refine' w_k ?h ?_); (case h => decide +kernel)) | with_reducible refine w_bl ?_ | with_reducible refine w_non ?_ | with_reducible refine w_if ?_ | with_reducible refine w_andV ?_ | with_reducible refine w_orV ?_ | with_reducible refine w_notV ?_ | with_reducible refine w_tup ?_ | with_reducible refine w_lst ?_ | with_reducible refine w_cb ?_ | with_reducible refine w_chain ?_ | with_reducible refine w_slS ?_ | with_reducible refine w_slL ?_ | with_reducible refine w_find1 ?_ | with_reducible refine w_find2 ?_ | with_reducible refine w_rfind1 ?_ | with_reducible refine w_rfind3 ?_ | with_reducible refine w_neg ?_ | with_reducible refine w_ref ?_ | with_reducible refine w_ty ?_ | with_reducible refine wt_test ?_ | with_reducible refine wt_B ?_ | with_reducible refine wt_and ?_ | with_reducible refine wt_or ?_ | with_reducible refine wt_not ?_ | with_reducible refine wt_yes ?_ | with_reducible refine wd_nil ?_ | with_reducible refine wd_cons ?_ | with_reducible refine wa_nil ?_ | with_reducible refine wa_cons ?_ | with_reducible refine wo_none ?_ | with_reducible refine wo_some ?_ | with_reducible refine rd_I0i ?_ | with_reducible refine rd_I0b ?_ | with_reducible refine rd_eqI ?_ | with_reducible refine rd_neI ?_ | with_reducible refine rd_eqS ?_ | with_reducible refine rd_neS ?_ | with_reducible refine rd_isN ?_ | with_reducible refine rd_notN ?_ | with_reducible refine rd_inSign ?_ | with_reducible refine cd_lenL ?_ | ((with_reducible refine' cd_lenS ?h ?_); (case h => first | assumption | omega)) | with_reducible refine cd_lenT ?_ | with_reducible refine cd_lenR ?_ | with_reducible refine cd_abs ?_ | with_reducible refine cd_max2 ?_ | with_reducible refine cd_min2 ?_ | with_reducible refine cd_intB ?_ | with_reducible refine cd_ord ?_ | with_reducible refine g_name ?_ | with_reducible refine ⟨_, rfl, ?_⟩ | with_reducible refine rd_leS ?_ | ((with_reducible refine' w_now ?C ?h ?_); (case C => assumption); (case h => rfl)) | ((with_reducible refine' w_width ?C ?h ?_); (case C => assumption); (case h => rfl)) | ((with_reducible refine' w_height ?C ?h ?_); (case C => assumption); (case h => rfl)) | ((with_reducible refine' w_caret ?C ?h ?_); (case C => assumption); (case h => rfl)) | ((with_reducible refine' w_is_back ?C ?h ?_); (case C => assumption); (case h => rfl)) | ((with_reducible refine' w_anchor ?C ?h ?_); (case C => assumption); (case h => rfl)) | ((with_reducible refine' w_wish ?C ?h ?_); (case C => assumption); (case h => rfl)) | ((with_reducible refine' w_first ?C ?h ?_); (case C => assumption); (case h => rfl)) | simp only [List.set_cons_succ, List.set_cons_zero]))
def softE (L : List R3) (k o : Nat) : Bool := match L[k]? with
  | some r => r.2.2 && decide (o = r.2.1)
  | none => false
def putS (s : Sh) (o : Nat) (b ch : Bool) : Sh := scrollS { s with caret := o, back := b && softE (rowsS s) (rowAt (rowsS s) o true) o, anchor := if ch then s.anchor else o }
theorem Wf.set {s : Sh} (h : Wf s) {o a : Nat} (ho : o ≤ s.now.length) (ha : a ≤ s.now.length) (b : Bool) (w : Option Nat) (f : Nat) : Wf { s with caret := o, back := b, anchor := a, wish := w, first := f } := ⟨h.t, h.w1, h.w2, h.h1, h.h2, ho, ha⟩
theorem Wf.put {s : Sh} (h : Wf s) {o : Nat} (ho : o ≤ s.now.length) (b ch : Bool) : Wf (putS s o b ch) := ⟨h.t, h.w1, h.w2, h.h1, h.h2, ho, by
  show (if ch then s.anchor else o) ≤ s.now.length
  have := h.a
  split <;> omega⟩
theorem uq4 {p : Addr} {A : OwnA} {x y z : Da} : Uq [.o p A, .d x, .d y, .d z] := by
  rintro (_ | _ | _ | _ | i) (_ | _ | _ | _ | j) q B C h1 h2 <;> simp_all
theorem uq2 {p : Addr} {A : OwnA} {x : Da} : Uq [.o p A, .d x] := by
  rintro (_ | _ | i) (_ | _ | j) q B C h1 h2 <;> simp_all
theorem uq3o {p : Addr} {A : OwnA} {x y : Da} : Uq [.o p A, .d x, .d y] := by
  rintro (_ | _ | _ | i) (_ | _ | _ | j) q B C h1 h2 <;> simp_all
def f_Sheet_put (K : PySem.W.Frag) : FS := fun ys R _ => ∃ (p : Addr) (s : Sh) (o : Nat) (b ch : Bool), ys = [.o p (osh K s), .d (.int o), .d (.bl b), .d (.bl ch)] ∧ RwF K ∧ ShC K ∧ Wt s ∧ (ch = true → s.anchor ≤ s.now.length) ∧ o ≤ s.now.length ∧ R .non [some (.o p (osh K (putS s o b ch))), none, none, none]
abbrev sp_Sheet_put (K : PySem.W.Frag) : Sp := SpOf K (f_Sheet_put K)
def t_Sheet_put (K : PySem.W.Frag) (E : XK) : TS := (tSeq (sFld K (tVar 0) (tVar 1) "caret")
  (tSeq (tAsg (tMeth (He.ga K "Sheet") "rows" (sp_Sheet_rows K) [] L2.E0 (tVar 0) tNil) (gName 4))
  (tSeq (tAsg (tCall (sp_row_at K) [] L2.E0 (tCons (tVar 4) (tCons (tVar 1) (tCons (tC (.bl true)) tNil)))) (gName 5))
  (tSeq (sFld K (tVar 0) (tAndV (tVar 2) (tCall (sp_is_soft_end K) [] L2.E0 (tCons (tVar 4) (tCons (tVar 5) (tCons (tVar 1) tNil))))) "is_back")
  (tSeq (tIfS (tNot (tB (tVar 3))) (sFld K (tVar 0) (tVar 1) "anchor") tNext)
  (tDrop (tMeth (He.ga K "Sheet") "scroll" (sp_Sheet_scroll K) [] L2.E0 (tVar 0) tNil)))))))
theorem len_f_Sheet_put {K : PySem.W.Frag} : ∀ ds R X, f_Sheet_put K ds R X → ds.length = 4 := by
  rintro ds R X ⟨_, _, _, _, _, rfl, _⟩
  rfl
theorem len_Sheet_put {K : PySem.W.Frag} : ∀ vs H Q E, sp_Sheet_put K vs H Q E → vs.length = 4 := fun _ _ _ _ h => spOf_len len_f_Sheet_put h
theorem cl_putT {K : PySem.W.Frag} {δ : Dl} {P : PX} {X : XX} {p : Addr} {s : Sh} {i o : Nat} {b ch : Bool} (hi : δ[i]? = some (some (.o p (osh K s)))) (F : RwF K) (C : ShC K) (wf : Wt s) (ha : ch = true → s.anchor ≤ s.now.length) (ho : o ≤ s.now.length) (k : P (.d .non) (δ.set i (some (.o p (osh K (putS s o b ch)))))) : Cl (f_Sheet_put K) [.a p, .d (.int o), .d (.bl b), .d (.bl ch)] δ P X :=
  ⟨_, [some i, none, none, none], .o hi (.d (.d (.d .nil))), uq4, p, s, o, b, ch, rfl, F, C, wf, ha, ho, k⟩
theorem cl_put {K : PySem.W.Frag} {δ : Dl} {P : PX} {X : XX} {p : Addr} {s : Sh} {i o : Nat} {b ch : Bool} (hi : δ[i]? = some (some (.o p (osh K s)))) (F : RwF K) (C : ShC K) (wf : Wf s) (ho : o ≤ s.now.length) (k : P (.d .non) (δ.set i (some (.o p (osh K (putS s o b ch)))))) : Cl (f_Sheet_put K) [.a p, .d (.int o), .d (.bl b), .d (.bl ch)] δ P X :=
  cl_putT hi F C wf.wt (fun _ => wf.a) ho k
theorem pure_Sheet_put {K : PySem.W.Frag} {vs : List V} {H : Hp} {Q : VK} {E : XK} (h : sp_Sheet_put K vs H Q E) : t_Sheet_put K E { nx := fun _ H' => Q .non H', rt := Q } (L2.start ["self", "offset", "is_back", "is_choosing", "rows", "number"] vs) H := by
  refine body (ts := t_Sheet_put K) 4 2 rfl len_f_Sheet_put (fun ds R X ⟨p, s, o, b, ch, e, F, C, wf, han, ho, hk⟩ => ?_) h
  subst e
  show T K _ (t_Sheet_put K E) [some (.o p (osh K s)), some (.d (.int o)), some (.d (.bl b)), some (.d (.bl ch)), none, none] _ _ _
  unfold t_Sheet_put
  have hch := wf.ch
  have hrl := wf.rl
  have hlt := rowAt_lt hch.ne o true
  obtain ⟨r, hr⟩ : ∃ r, (rowsS s)[rowAt (rowsS s) o true]? = some r := ⟨_, List.getElem?_eq_getElem hlt⟩
  have hse : softE (rowsS s) (rowAt (rowsS s) o true) o = (r.2.2 && decide (o = r.2.1)) := by unfold softE; rw [hr]
  refine t_seq (t_caret C ?_)
  walk_at "xs"
  refine ⟨_, p, s, rfl, rfl, ?_⟩
  have wf1 : Wt { s with caret := o } := ⟨wf.t, wf.w1, wf.w2, wf.h1, wf.h2⟩
  walk_at "xs"
  refine w_meth (by decide) ?_
  walk_at "xs"
  refine ⟨_, 0, { s with caret := o }, rfl, rfl, wa_nil (cl_rdT (i := 0) rfl F C wf1 rfl ⟨_, rfl, ?_⟩)⟩
  show T K _ _ [some (.o p (osh K { s with caret := o })), some (.d (.int o)), some (.d (.bl b)), some (.d (.bl ch)), some (.d (.lst ((rowsS s).map dR))), none] _ _ _
  walk_at "xs"
  refine w_fn ?_
  walk_at "xs"
  refine ⟨rowsS s, o, true, rfl, F, hch.ne, by omega, ?_⟩
  walk_at "xs"
  refine t_is_back C ?_
  refine W.imp (P := fun x δ' => x = .d (.bl (b && softE (rowsS s) (rowAt (rowsS s) o true) o)) ∧ δ' = [some (.o p (osh K { s with caret := o })), some (.d (.int o)), some (.d (.bl b)), some (.d (.bl ch)), some (.d (.lst ((rowsS s).map dR))), some (.d (.int ((rowAt (rowsS s) o true : Nat) : Int)))]) ?_ ?_
  · walk_at "xs"
    refine ⟨fun hb => ?_, fun hb => ?_⟩
    · refine w_fn ?_
      walk_at "xs"
      refine ⟨rowsS s, _, r, o, rfl, F, hr, ?_⟩
      refine ⟨?_, trivial⟩
      have e1 : decide ((o : Int) = (r.2.1 : Int)) = decide (o = r.2.1) := decide_eq_decide.mpr (by omega)
      rw [hb, Bool.true_and, hse, e1]
    · rw [hb, Bool.false_and]
      exact ⟨rfl, trivial⟩
  rintro x δ' ⟨rfl, rfl⟩
  refine ⟨_, p, { s with caret := o }, rfl, rfl, ?_⟩
  have hk2 : R .non [some (.o p (osh K (scrollS { s with caret := o, back := b && softE (rowsS s) (rowAt (rowsS s) o true) o, anchor := if ch then s.anchor else o }))), none, none, none] := hk
  generalize (b && softE (rowsS s) (rowAt (rowsS s) o true) o) = b2 at hk2 ⊢
  have fin : ∀ (a : Nat) (x4 x5 : Option Dx), a ≤ s.now.length → R .non [some (.o p (osh K (scrollS { s with caret := o, back := b2, anchor := a }))), none, none, none] → T K (fun c d _ H => E c d H) (tDrop (tMeth (He.ga K "Sheet") "scroll" (sp_Sheet_scroll K) [] L2.E0 (tVar 0) tNil)) [some (.o p (osh K { s with caret := o, back := b2, anchor := a })), some (.d (.int o)), some (.d (.bl b)), some (.d (.bl ch)), x4, x5] (fun δ' => R .non (outs [.o p (osh K s), .d (.int o), .d (.bl b), .d (.bl ch)] δ') ∧ keepP [.o p (osh K s), .d (.int o), .d (.bl b), .d (.bl ch)] δ') (fun x δ' => RetD K 4 x δ' (fun d => R d (outs [.o p (osh K s), .d (.int o), .d (.bl b), .d (.bl ch)] δ')) ∧ keepP [.o p (osh K s), .d (.int o), .d (.bl b), .d (.bl ch)] δ') (fun C δ' => X C (outs [.o p (osh K s), .d (.int o), .d (.bl b), .d (.bl ch)] δ') ∧ keepP [.o p (osh K s), .d (.int o), .d (.bl b), .d (.bl ch)] δ') := fun a x4 x5 ha hR => by
    walk_at "xs"
    refine w_meth (by decide) ?_
    walk_at "xs"
    exact ⟨_, 0, _, rfl, rfl, wa_nil (cl_scroll (i := 0) rfl F C ⟨wf.t, wf.w1, wf.w2, wf.h1, wf.h2, ho, ha⟩ ⟨hR, rfl, trivial⟩)⟩
  show T K _ _ [some (.o p (osh K { s with caret := o, back := b2 })), some (.d (.int o)), some (.d (.bl b)), some (.d (.bl ch)), some (.d (.lst ((rowsS s).map dR))), some (.d (.int ((rowAt (rowsS s) o true : Nat) : Int)))] _ _ _
  walk_at "xs"
  refine ⟨fun hb => ?_, fun hb => ?_⟩
  · have hb : ch = false := by simpa using hb
    subst hb
    refine t_anchor C ?_
    walk_at "xs"
    exact ⟨_, p, { s with caret := o, back := b2 }, rfl, rfl, fin o _ _ ho hk2⟩
  · have hb : ch = true := by simpa using hb
    subst hb
    exact t_next (fin s.anchor _ _ (han rfl) hk2)
def f_Sheet_go (K : PySem.W.Frag) : FS := fun ys R X => ∃ (p : Addr) (s : Sh) (o : Int), ys = [.o p (osh K s), .d (.int o)] ∧ RwF K ∧ ShC K ∧ Wf s ∧ (¬ (0 ≤ o ∧ o ≤ s.now.length) → X "BadPlace" [some (.o p (osh K s)), none]) ∧ (0 ≤ o ∧ o ≤ s.now.length → R .non [some (.o p (osh K (putS { s with wish := none } o.toNat false false))), none])
abbrev sp_Sheet_go (K : PySem.W.Frag) : Sp := SpOf K (f_Sheet_go K)
def t_Sheet_go (K : PySem.W.Frag) (E : XK) : TS := (tSeq (tDrop (tCall (sp_look_offset K) [] E (tCons (tFld K (tVar 0) "now") (tCons (tVar 1) tNil))))
  (tSeq (sFld K (tVar 0) (tC .non) "wish")
  (tDrop (tMeth (He.ga K "Sheet") "put" (sp_Sheet_put K) [] L2.E0 (tVar 0) (tCons (tVar 1) (tCons (tC (.bl false)) (tCons (tC (.bl false)) tNil)))))))
theorem len_f_Sheet_go {K : PySem.W.Frag} : ∀ ds R X, f_Sheet_go K ds R X → ds.length = 2 := by
  rintro ds R X ⟨_, _, _, rfl, _⟩
  rfl
theorem len_Sheet_go {K : PySem.W.Frag} : ∀ vs H Q E, sp_Sheet_go K vs H Q E → vs.length = 2 := fun _ _ _ _ h => spOf_len len_f_Sheet_go h
theorem cl_go {K : PySem.W.Frag} {δ : Dl} {P : PX} {X : XX} {p : Addr} {s : Sh} {i : Nat} {o : Int} (hi : δ[i]? = some (some (.o p (osh K s)))) (F : RwF K) (C : ShC K) (wf : Wf s) (k1 : ¬ (0 ≤ o ∧ o ≤ s.now.length) → X "BadPlace" (δ.set i (some (.o p (osh K s))))) (k2 : 0 ≤ o ∧ o ≤ s.now.length → P (.d .non) (δ.set i (some (.o p (osh K (putS { s with wish := none } o.toNat false false)))))) : Cl (f_Sheet_go K) [.a p, .d (.int o)] δ P X :=
  ⟨_, [some i, none], .o hi (.d .nil), uq2, p, s, o, rfl, F, C, wf, k1, k2⟩
theorem pure_Sheet_go {K : PySem.W.Frag} {vs : List V} {H : Hp} {Q : VK} {E : XK} (h : sp_Sheet_go K vs H Q E) : t_Sheet_go K E { nx := fun _ H' => Q .non H', rt := Q } (L2.start ["self", "offset"] vs) H := by
  refine body (ts := t_Sheet_go K) 2 0 rfl len_f_Sheet_go (fun ds R X ⟨p, s, o, e, F, C, wf, k1, k2⟩ => ?_) h
  subst e
  show T K _ (t_Sheet_go K E) [some (.o p (osh K s)), some (.d (.int o))] _ _ _
  unfold t_Sheet_go
  have hl := wf.l
  walk_at "xs"
  refine w_fnX (fun _ _ _ _ h => h) ?_
  walk_at "xs"
  refine ⟨s.now, o, rfl, by omega, fun ok => ?_, fun no => ⟨k1 no, rfl, trivial⟩⟩
  obtain ⟨u, rfl⟩ : ∃ u : Nat, o = (u : Int) := ⟨o.toNat, by omega⟩
  have hk := k2 ok
  rw [Int.toNat_natCast] at hk
  have wf1 : Wf { s with wish := none } := ⟨wf.t, wf.w1, wf.w2, wf.h1, wf.h2, wf.c, wf.a⟩
  refine t_seq (t_wish C ?_)
  walk_at "xs"
  refine ⟨none, p, s, rfl, rfl, ?_⟩
  walk_at "xs"
  refine w_meth (by decide) ?_
  walk_at "xs"
  refine ⟨_, 0, { s with wish := none }, rfl, rfl, ?_⟩
  walk_at "xs"
  exact cl_put (i := 0) rfl F C wf1 (by show u ≤ s.now.length; omega) ⟨hk, rfl, trivial⟩
def f_Sheet_choose (K : PySem.W.Frag) : FS := fun ys R X => ∃ (p : Addr) (s : Sh) (a o : Int), ys = [.o p (osh K s), .d (.int a), .d (.int o)] ∧ RwF K ∧ ShC K ∧ Wf s ∧ (¬ ((0 ≤ a ∧ a ≤ s.now.length) ∧ (0 ≤ o ∧ o ≤ s.now.length)) → X "BadPlace" [some (.o p (osh K s)), none, none]) ∧ ((0 ≤ a ∧ a ≤ s.now.length) ∧ (0 ≤ o ∧ o ≤ s.now.length) → R .non [some (.o p (osh K (putS { s with wish := none, anchor := a.toNat } o.toNat false true))), none, none])
abbrev sp_Sheet_choose (K : PySem.W.Frag) : Sp := SpOf K (f_Sheet_choose K)
def t_Sheet_choose (K : PySem.W.Frag) (E : XK) : TS := (tSeq (tDrop (tCall (sp_look_offset K) [] E (tCons (tFld K (tVar 0) "now") (tCons (tVar 1) tNil))))
  (tSeq (tDrop (tCall (sp_look_offset K) [] E (tCons (tFld K (tVar 0) "now") (tCons (tVar 2) tNil))))
  (tSeq (sFld K (tVar 0) (tC .non) "wish")
  (tSeq (sFld K (tVar 0) (tVar 1) "anchor")
  (tDrop (tMeth (He.ga K "Sheet") "put" (sp_Sheet_put K) [] L2.E0 (tVar 0) (tCons (tVar 2) (tCons (tC (.bl false)) (tCons (tC (.bl true)) tNil)))))))))
theorem len_f_Sheet_choose {K : PySem.W.Frag} : ∀ ds R X, f_Sheet_choose K ds R X → ds.length = 3 := by
  rintro ds R X ⟨_, _, _, _, rfl, _⟩
  rfl
theorem len_Sheet_choose {K : PySem.W.Frag} : ∀ vs H Q E, sp_Sheet_choose K vs H Q E → vs.length = 3 := fun _ _ _ _ h => spOf_len len_f_Sheet_choose h
theorem cl_choose {K : PySem.W.Frag} {δ : Dl} {P : PX} {X : XX} {p : Addr} {s : Sh} {i : Nat} {a o : Int} (hi : δ[i]? = some (some (.o p (osh K s)))) (F : RwF K) (C : ShC K) (wf : Wf s) (k1 : ¬ ((0 ≤ a ∧ a ≤ s.now.length) ∧ (0 ≤ o ∧ o ≤ s.now.length)) → X "BadPlace" (δ.set i (some (.o p (osh K s))))) (k2 : (0 ≤ a ∧ a ≤ s.now.length) ∧ (0 ≤ o ∧ o ≤ s.now.length) → P (.d .non) (δ.set i (some (.o p (osh K (putS { s with wish := none, anchor := a.toNat } o.toNat false true)))))) : Cl (f_Sheet_choose K) [.a p, .d (.int a), .d (.int o)] δ P X :=
  ⟨_, [some i, none, none], .o hi (.d (.d .nil)), uq3o, p, s, a, o, rfl, F, C, wf, k1, k2⟩
theorem pure_Sheet_choose {K : PySem.W.Frag} {vs : List V} {H : Hp} {Q : VK} {E : XK} (h : sp_Sheet_choose K vs H Q E) : t_Sheet_choose K E { nx := fun _ H' => Q .non H', rt := Q } (L2.start ["self", "first", "last"] vs) H := by
  refine body (ts := t_Sheet_choose K) 3 0 rfl len_f_Sheet_choose (fun ds R X ⟨p, s, a, o, e, F, C, wf, k1, k2⟩ => ?_) h
  subst e
  show T K _ (t_Sheet_choose K E) [some (.o p (osh K s)), some (.d (.int a)), some (.d (.int o))] _ _ _
  unfold t_Sheet_choose
  have hl := wf.l
  walk_at "xs"
  refine w_fnX (fun _ _ _ _ h => h) ?_
  walk_at "xs"
  refine ⟨s.now, a, rfl, by omega, fun ok1 => ?_, fun no => ⟨k1 fun z => no z.1, rfl, trivial⟩⟩
  walk_at "xs"
  refine w_fnX (fun _ _ _ _ h => h) ?_
  walk_at "xs"
  refine ⟨s.now, o, rfl, by omega, fun ok2 => ?_, fun no => ⟨k1 fun z => no z.2, rfl, trivial⟩⟩
  have hk := k2 ⟨ok1, ok2⟩
  obtain ⟨u, rfl⟩ : ∃ u : Nat, o = (u : Int) := ⟨o.toNat, by omega⟩
  obtain ⟨b, rfl⟩ : ∃ b : Nat, a = (b : Int) := ⟨a.toNat, by omega⟩
  rw [Int.toNat_natCast, Int.toNat_natCast] at hk
  have wf1 : Wf { s with wish := none, anchor := b } := ⟨wf.t, wf.w1, wf.w2, wf.h1, wf.h2, wf.c, by show b ≤ s.now.length; omega⟩
  refine t_seq (t_wish C ?_)
  walk_at "xs"
  refine ⟨none, p, s, rfl, rfl, ?_⟩
  refine t_seq (t_anchor C ?_)
  walk_at "xs"
  refine ⟨_, p, { s with wish := none }, rfl, rfl, ?_⟩
  walk_at "xs"
  refine w_meth (by decide) ?_
  walk_at "xs"
  refine ⟨_, 0, { s with wish := none, anchor := b }, rfl, rfl, ?_⟩
  walk_at "xs"
  exact cl_put (i := 0) rfl F C wf1 (by show u ≤ s.now.length; omega) ⟨hk, rfl, trivial⟩
end Cr

namespace Cr
open PySem L2
local macro_rules | `(tactic| walk_at "x") => `(tactic| first | with_reducible refine t_seq ?_ | with_reducible refine t_ret ?_ | with_reducible refine t_set ?_ | with_reducible refine t_drop ?_ | with_reducible refine t_if ?_ | with_reducible refine t_next ?_ | with_reducible refine t_raise ?_ | with_reducible refine t_asg ?_ | with_reducible refine t_retN ?_ | with_reducible refine w_op ?_ | ((with_reducible refine' w_var ?h ?_); (case h => rfl)) | ((with_reducible refine' w_own ?h ?_); (case h => rfl)) | with_reducible refine w_int ?_ | ((with_reducible refine' w_k ?h ?_); (case h => decide +kernel)) | with_reducible refine w_bl ?_ | with_reducible refine w_non ?_ | with_reducible refine w_if ?_ | with_reducible refine w_andV ?_ | with_reducible refine w_orV ?_ | with_reducible refine w_notV ?_ | with_reducible refine w_tup ?_ | with_reducible refine w_lst ?_ | with_reducible refine w_cb ?_ | with_reducible refine w_chain ?_ | with_reducible refine w_slS ?_ | with_reducible refine w_slL ?_ | with_reducible refine w_find1 ?_ | with_reducible refine w_find2 ?_ | with_reducible refine w_rfind1 ?_ | with_reducible refine w_rfind3 ?_ | with_reducible refine w_neg ?_ | with_reducible refine w_ref ?_ | with_reducible refine w_ty ?_ | with_reducible refine wt_test ?_ | with_reducible refine wt_B ?_ | with_reducible refine wt_and ?_ | with_reducible refine wt_or ?_ | with_reducible refine wt_not ?_ | with_reducible refine wt_yes ?_ | with_reducible refine wd_nil ?_ | with_reducible refine wd_cons ?_ | with_reducible refine wa_nil ?_ | with_reducible refine wa_cons ?_ | with_reducible refine wo_none ?_ | with_reducible refine wo_some ?_ | with_reducible refine rd_I0i ?_ | with_reducible refine rd_I0b ?_ | with_reducible refine rd_eqI ?_ | with_reducible refine rd_neI ?_ | with_reducible refine rd_eqS ?_ | with_reducible refine rd_neS ?_ | with_reducible refine rd_isN ?_ | with_reducible refine rd_notN ?_ | with_reducible refine rd_inSign ?_ | with_reducible refine cd_lenL ?_ | ((with_reducible refine' cd_lenS ?h ?_); (case h => first | assumption | omega)) | with_reducible refine cd_lenT ?_ | with_reducible refine cd_lenR ?_ | with_reducible refine cd_abs ?_ | with_reducible refine cd_max2 ?_ | with_reducible refine cd_min2 ?_ | with_reducible refine cd_intB ?_ | with_reducible refine cd_ord ?_ | with_reducible refine g_name ?_ | with_reducible refine ⟨_, rfl, ?_⟩ | with_reducible refine rd_leS ?_ | ((with_reducible refine' w_now ?C ?h ?_); (case C => assumption); (case h => rfl)) | ((with_reducible refine' w_width ?C ?h ?_); (case C => assumption); (case h => rfl)) | ((with_reducible refine' w_height ?C ?h ?_); (case C => assumption); (case h => rfl)) | ((with_reducible refine' w_caret ?C ?h ?_); (case C => assumption); (case h => rfl)) | ((with_reducible refine' w_is_back ?C ?h ?_); (case C => assumption); (case h => rfl)) | ((with_reducible refine' w_anchor ?C ?h ?_); (case C => assumption); (case h => rfl)) | ((with_reducible refine' w_wish ?C ?h ?_); (case C => assumption); (case h => rfl)) | ((with_reducible refine' w_first ?C ?h ?_); (case C => assumption); (case h => rfl)))
local macro_rules | `(tactic| walk_at "xs") => `(tactic| repeat (first | with_reducible refine t_seq ?_ | with_reducible refine t_ret ?_ | with_reducible refine t_set ?_ | with_reducible refine t_drop ?_ | with_reducible refine t_if ?_ | with_reducible refine t_next ?_ | with_reducible refine t_raise ?_ | with_reducible refine t_asg ?_ | with_reducible refine t_retN ?_ | with_reducible refine w_op ?_ | ((with_reducible refine' w_var ?h ?_); (case h => rfl)) | ((with_reducible refine' w_own ?h ?_); (case h => rfl)) | with_reducible refine w_int ?_ | ((with_reducible refine' w_k ?h ?_); (case h => decide +kernel)) | with_reducible refine w_bl ?_ | with_reducible refine w_non ?_ | with_reducible refine w_if ?_ | with_reducible refine w_andV ?_ | with_reducible refine w_orV ?_ | with_reducible refine w_notV ?_ | with_reducible refine w_tup ?_ | with_reducible refine w_lst ?_ | with_reducible refine w_cb ?_ | with_reducible refine w_chain ?_ | with_reducible refine w_slS ?_ | with_reducible refine w_slL ?_ | with_reducible refine w_find1 ?_ | with_reducible refine w_find2 ?_ | with_reducible refine w_rfind1 ?_ | with_reducible refine w_rfind3 ?_ | with_reducible refine w_neg ?_ | with_reducible refine w_ref ?_ | with_reducible refine w_ty ?_ | with_reducible refine wt_test ?_ | with_reducible refine wt_B ?_ | with_reducible refine wt_and ?_ | with_reducible refine wt_or ?_ | with_reducible refine wt_not ?_ | with_reducible refine wt_yes ?_ | with_reducible refine wd_nil ?_ | with_reducible refine wd_cons ?_ | with_reducible refine wa_nil ?_ | with_reducible refine wa_cons ?_ | with_reducible refine wo_none ?_ | with_reducible refine wo_some ?_ | with_reducible refine rd_I0i ?_ | with_reducible refine rd_I0b ?_ | with_reducible refine rd_eqI ?_ | with_reducible refine rd_neI ?_ | with_reducible refine rd_eqS ?_ | with_reducible refine rd_neS ?_ | with_reducible refine rd_isN ?_ | with_reducible refine rd_notN ?_ | with_reducible refine rd_inSign ?_ | with_reducible refine cd_lenL ?_ | ((with_reducible refine' cd_lenS ?h ?_); (case h => first | assumption | omega)) | with_reducible refine cd_lenT ?_ | with_reducible refine cd_lenR ?_ | with_reducible refine cd_abs ?_ | with_reducible refine cd_max2 ?_ | with_reducible refine cd_min2 ?_ | with_reducible refine cd_intB ?_ | with_reducible refine cd_ord ?_ | with_reducible refine g_name ?_ | with_reducible refine ⟨_, rfl, ?_⟩ | with_reducible refine rd_leS ?_ | ((with_reducible refine' w_now ?C ?h ?_); (case C => assumption); (case h => rfl)) | ((with_reducible refine' w_width ?C ?h ?_); (case C => assumption); (case h => rfl)) | ((with_reducible refine' w_height ?C ?h ?_); (case C => assumption); (case h => rfl)) | ((with_reducible refine' w_caret ?C ?h ?_); (case C => assumption); (case h => rfl)) | ((with_reducible refine' w_is_back ?C ?h ?_); (case C => assumption); (case h => rfl)) | ((with_reducible refine' w_anchor ?C ?h ?_); (case C => assumption); (case h => rfl)) | ((with_reducible refine' w_wish ?C ?h ?_); (case C => assumption); (case h => rfl)) | ((with_reducible refine' w_first ?C ?h ?_); (case C => assumption); (case h => rfl)) | simp only [List.set_cons_succ, List.set_cons_zero]))
def winS (s : Sh) : List R3 := ((rowsS s).drop s.first).take s.height
def viewD (s : Sh) : Da := .tup [.lst ((winS s).map fun r => .str (tx s.now r)), .int (((rowAt (rowsS s) s.caret s.back : Nat) : Int) - s.first), .int ((colOf s.now ((rowsS s).getD (rowAt (rowsS s) s.caret s.back) (0, 0, false)).1 s.caret : Nat) : Int)]
def f_Sheet_view (K : PySem.W.Frag) : FS := rdS K fun s R => R (viewD s)
abbrev sp_Sheet_view (K : PySem.W.Frag) : Sp := SpOf K (f_Sheet_view K)
def t_Sheet_view (K : PySem.W.Frag) (E : XK) : TS := (tSeq (tAsg (tSl (rSlL K) (tMeth (He.ga K "Sheet") "rows" (sp_Sheet_rows K) [] L2.E0 (tVar 0) tNil) (tPart (tFld K (tVar 0) "first")) (tPart (tOp rPlus (tFld K (tVar 0) "first") (tFld K (tVar 0) "height")))) (gName 1))
  (tSeq (tAsg (tMeth (He.ga K "Sheet") "at" (sp_Sheet_at K) [] L2.E0 (tVar 0) tNil) (gTup K 3 (gCons (gName 2) (gCons (gName 3) (gCons (gName 4) gNil)))))
  (tRet (tTup (tCons (tLc (iList K (tVar 1)) (gName 5) tYes (tSl rSlS (tFld K (tVar 0) "now") (tPart (tFld K (tVar 5) "start")) (tPart (tFld K (tVar 5) "end"))) [5]) (tCons (tOp rMinus (tVar 3) (tFld K (tVar 0) "first")) (tCons (tVar 4) tNil)))))))
theorem len_f_Sheet_view {K : PySem.W.Frag} : ∀ ds R X, f_Sheet_view K ds R X → ds.length = 1 := by
  rintro ds R X ⟨_, _, rfl, _⟩
  rfl
theorem len_Sheet_view {K : PySem.W.Frag} : ∀ vs H Q E, sp_Sheet_view K vs H Q E → vs.length = 1 := fun _ _ _ _ h => spOf_len len_f_Sheet_view h
theorem pure_Sheet_view {K : PySem.W.Frag} {vs : List V} {H : Hp} {Q : VK} {E : XK} (h : sp_Sheet_view K vs H Q E) : t_Sheet_view K E { nx := fun _ H' => Q .non H', rt := Q } (L2.start ["self", "some", "offset", "number", "column", "row"] vs) H := by
  refine body (ts := t_Sheet_view K) 1 5 rfl len_f_Sheet_view (fun ds R X ⟨p, s, e, F, C, wf, hk⟩ => ?_) h
  subst e
  show T K _ (t_Sheet_view K E) [some (.o p (osh K s)), none, none, none, none, none] _ _ _
  unfold t_Sheet_view
  have hl := wf.l
  have rl := wf.rl
  have hk : R (viewD s) [some (.o p (osh K s))] := hk
  unfold viewD at hk
  walk_at "xs"
  refine w_meth (by decide) ?_
  walk_at "xs"
  refine ⟨_, 0, s, rfl, rfl, wa_nil (cl_rdT (i := 0) rfl F C wf.wt rfl ⟨_, rfl, ?_⟩)⟩
  walk_at "xs"
  have ec : cut ((rowsS s).map dR) (some (s.first : Int)) (some ((s.first : Int) + (s.height : Int))) = (winS s).map dR := by
    have := cut_nat ((rowsS s).map dR) s.first (s.first + s.height)
    rw [Nat.add_sub_cancel_left, ← List.map_drop, ← List.map_take] at this
    exact this
  rw [ec]
  have wl : (winS s).length ≤ 2001 := by
    unfold winS
    rw [List.length_take, List.length_drop]
    omega
  walk_at "xs"
  refine w_meth (by decide) ?_
  walk_at "xs"
  refine ⟨_, 0, s, rfl, rfl, wa_nil (cl_rdS (i := 0) rfl F C wf rfl ⟨_, rfl, ?_⟩)⟩
  refine g_tup rfl (gs_cons (g_name (gs_cons (g_name (gs_cons (g_name (gs_nil ?_)))))))
  walk_at "xs"
  refine w_lcP (showR s.now) (wi_list ?_)
  walk_at "xs"
  refine ⟨noneAt1 rfl, by rw [List.length_map]; omega, fun i d hd => ?_, ?_⟩
  · obtain ⟨r, hr, rfl⟩ := map_get hd
    refine gv_name (by simp) ?_
    walk_at "xs"
    refine ⟨fun _ => ?_, fun z => nomatch z⟩
    walk_at "xs"
    refine ⟨by omega, ?_⟩
    walk_at "xs"
    refine w_start F ?_
    walk_at "xs"
    refine ⟨_, _, _, rfl, _, rfl, ?_⟩
    walk_at "xs"
    refine w_end F ?_
    walk_at "xs"
    refine ⟨_, _, _, rfl, _, rfl, ?_⟩
    refine ⟨_, rfl, ?_, rfl⟩
    rw [cut_nat]
    rfl
  rw [fm_map (f := dR) (g := fun r => .str (tx s.now r)) (h := showR s.now) (fun a => rfl)]
  walk_at "xs"
  exact ⟨by show 3 ≤ 16000000; decide, hk, rfl, trivial⟩
/-! ### a sheet is made -/
def s0 (t : List Nat) (w h : Nat) : Sh := ⟨t, w, h, 0, false, 0, none, 0, []⟩
def goodH (h : Int) : Prop := 1 ≤ h ∧ h ≤ 100
def f_Sheet_init (K : PySem.W.Frag) : FS := fun ys R X => ∃ (p : Addr) (t : List Nat) (w h : Int), ys = [.o p (opart K []), .d (.str t), .d (.int w), .d (.int h)] ∧ ShC K ∧ t.length ≤ 16000000 ∧ (isText t = false → X "BadText" [some (.o p (opart K [])), none, none, none]) ∧
  (isText t = true → ¬ ((2 ≤ w ∧ w ≤ 200) ∧ goodH h) → X "BadSize" [some (.o p (opart K [])), none, none, none]) ∧ (isText t = true → (2 ≤ w ∧ w ≤ 200) ∧ goodH h → R .non [some (.o p (osh K (s0 t w.toNat h.toNat))), none, none, none])
abbrev sp_Sheet_init (K : PySem.W.Frag) : Sp := SpOf K (f_Sheet_init K)
def t_Sheet_init (K : PySem.W.Frag) (E : XK) : TS := (tSeq (tDrop (tCall (sp_look_text K) [] E (tCons (tVar 1) tNil)))
  (tSeq (tDrop (tCall (sp_look_width K) [] E (tCons (tVar 2) tNil)))
  (tSeq (tIfS (tNot (tTest (tChain rLe' rLe' (tC (.int 1)) (tVar 3) (tC (.int 100))))) (tRz E (He.ga K "BadSize")) tNext)
  (tSeq (sFld K (tVar 0) (tVar 1) "now")
  (tSeq (sFld K (tVar 0) (tVar 2) "width")
  (tSeq (sFld K (tVar 0) (tVar 3) "height")
  (tSeq (sFld K (tVar 0) (tC (.int 0)) "caret")
  (tSeq (sFld K (tVar 0) (tC (.bl false)) "is_back")
  (tSeq (sFld K (tVar 0) (tC (.int 0)) "anchor")
  (tSeq (sFld K (tVar 0) (tC .non) "wish")
  (tSeq (sFld K (tVar 0) (tC (.int 0)) "first")
  (sFld K (tVar 0) tDNewK "marked"))))))))))))
theorem len_f_Sheet_init {K : PySem.W.Frag} : ∀ ds R X, f_Sheet_init K ds R X → ds.length = 4 := by
  rintro ds R X ⟨_, _, _, _, rfl, _⟩
  rfl
theorem len_Sheet_init {K : PySem.W.Frag} : ∀ vs H Q E, sp_Sheet_init K vs H Q E → vs.length = 4 := fun _ _ _ _ h => spOf_len len_f_Sheet_init h
theorem pure_Sheet_init {K : PySem.W.Frag} {vs : List V} {H : Hp} {Q : VK} {E : XK} (h : sp_Sheet_init K vs H Q E) : t_Sheet_init K E { nx := fun _ H' => Q .non H', rt := Q } (L2.start ["self", "text", "width", "height"] vs) H := by
  refine body (ts := t_Sheet_init K) 4 0 rfl len_f_Sheet_init (fun ds R X ⟨p, t, w, h, e, C, ht, k1, k2, k3⟩ => ?_) h
  subst e
  rename_i hsp
  show T K _ (t_Sheet_init K E) [some (.o p (opart K [])), some (.d (.str t)), some (.d (.int w)), some (.d (.int h))] _ _ _
  unfold t_Sheet_init
  walk_at "xs"
  refine w_fnX (fun _ _ _ _ h => h) ?_
  walk_at "xs"
  refine ⟨t, rfl, ht, fun it => ?_, fun z => ⟨k1 z, rfl, trivial⟩⟩
  walk_at "xs"
  refine w_fnX (fun _ _ _ _ h => h) ?_
  walk_at "xs"
  refine ⟨w, rfl, fun iw => ?_, fun z => ⟨k2 it fun q => z q.1, rfl, trivial⟩⟩
  refine t_seq (t_if (WT.imp (P := fun q δ' => (q = false ↔ goodH h) ∧ δ' = [some (.o p (opart K [])), some (.d (.str t)), some (.d (.int w)), some (.d (.int h))]) ?_ ?_))
  · unfold goodH
    walk_at "xs"
    refine ⟨fun hb => ?_, fun hb => ?_⟩
    · have hb := of_decide_eq_true hb
      walk_at "xs"
      refine ⟨?_, trivial⟩
      simp
      omega
    · have hb := of_decide_eq_false hb
      refine ⟨_, rfl, ?_, trivial⟩
      simp
      omega
  rintro q δ' ⟨hq, rfl⟩
  refine ⟨fun hb => t_raise ⟨k2 it (fun z => by rw [hq.mpr z.2] at hb; exact (nomatch hb)), rfl, trivial⟩, fun hb => ?_⟩
  have hh := hq.mp hb
  have hk := k3 it ⟨iw, hh⟩
  unfold goodH at hh
  obtain ⟨w, rfl⟩ : ∃ u : Nat, w = (u : Int) := ⟨w.toNat, by omega⟩
  obtain ⟨h, rfl⟩ : ∃ u : Nat, h = (u : Int) := ⟨h.toNat, by omega⟩
  rw [Int.toNat_natCast, Int.toNat_natCast] at hk
  refine t_next ?_
  refine t_seq (t_part C (by decide) ?_)
  walk_at "xs"
  refine ⟨_, .str (S t), p, _, rfl, (fun _ _ r => by cases r; rfl), by show 0 < 1000; decide, rfl, ?_⟩
  refine t_seq (t_part C (by decide) ?_)
  walk_at "xs"
  refine ⟨_, .int w, p, _, rfl, (fun _ _ r => by cases r; rfl), by show 1 < 1000; decide, rfl, ?_⟩
  refine t_seq (t_part C (by decide) ?_)
  walk_at "xs"
  refine ⟨_, .int h, p, _, rfl, (fun _ _ r => by cases r; rfl), by show 2 < 1000; decide, rfl, ?_⟩
  refine t_seq (t_part C (by decide) ?_)
  walk_at "xs"
  refine ⟨_, .int 0, p, _, rfl, (fun _ _ r => by cases r; rfl), by show 3 < 1000; decide, rfl, ?_⟩
  refine t_seq (t_part C (by decide) ?_)
  walk_at "xs"
  refine ⟨_, .bl false, p, _, rfl, (fun _ _ r => by cases r; rfl), by show 4 < 1000; decide, rfl, ?_⟩
  refine t_seq (t_part C (by decide) ?_)
  walk_at "xs"
  refine ⟨_, .int 0, p, _, rfl, (fun _ _ r => by cases r; rfl), by show 5 < 1000; decide, rfl, ?_⟩
  refine t_seq (t_part C (by decide) ?_)
  walk_at "xs"
  refine ⟨_, .non, p, _, rfl, (fun _ _ r => by cases r; rfl), by show 6 < 1000; decide, rfl, ?_⟩
  refine t_seq (t_part C (by decide) ?_)
  walk_at "xs"
  refine ⟨_, .int 0, p, _, rfl, (fun _ _ r => by cases r; rfl), by show 7 < 1000; decide, rfl, ?_⟩
  exact t_marked (s := s0 t w h) C rfl (by show 8 < 1000; decide) (fun _ => rfl) rfl ⟨hk, rfl, trivial⟩
end Cr

namespace Cr
open PySem L2
local macro_rules | `(tactic| walk_at "x") => `(tactic| first | with_reducible refine t_seq ?_ | with_reducible refine t_ret ?_ | with_reducible refine t_set ?_ | with_reducible refine t_drop ?_ | with_reducible refine t_if ?_ | with_reducible refine t_next ?_ | with_reducible refine t_raise ?_ | with_reducible refine t_asg ?_ | with_reducible refine t_retN ?_ | with_reducible refine w_op ?_ | ((with_reducible refine' w_var ?h ?_); (case h => rfl)) | ((with_reducible refine' w_own ?h ?_); (case h => rfl)) | with_reducible refine w_int ?_ | ((with_reducible refine' w_k ?h ?_); (case h => decide +kernel)) | with_reducible refine w_bl ?_ | with_reducible refine w_non ?_ | with_reducible refine w_if ?_ | with_reducible refine w_andV ?_ | with_reducible refine w_orV ?_ | with_reducible refine w_notV ?_ | with_reducible refine w_tup ?_ | with_reducible refine w_lst ?_ | with_reducible refine w_cb ?_ | with_reducible refine w_chain ?_ | with_reducible refine w_slS ?_ | with_reducible refine w_slL ?_ | with_reducible refine w_find1 ?_ | with_reducible refine w_find2 ?_ | with_reducible refine w_rfind1 ?_ | with_reducible refine w_rfind3 ?_ | with_reducible refine w_neg ?_ | with_reducible refine w_ref ?_ | with_reducible refine w_ty ?_ | with_reducible refine wt_test ?_ | with_reducible refine wt_B ?_ | with_reducible refine wt_and ?_ | with_reducible refine wt_or ?_ | with_reducible refine wt_not ?_ | with_reducible refine wt_yes ?_ | with_reducible refine wd_nil ?_ | with_reducible refine wd_cons ?_ | with_reducible refine wa_nil ?_ | with_reducible refine wa_cons ?_ | with_reducible refine wo_none ?_ | with_reducible refine wo_some ?_ | with_reducible refine rd_I0i ?_ | with_reducible refine rd_I0b ?_ | with_reducible refine rd_eqI ?_ | with_reducible refine rd_neI ?_ | with_reducible refine rd_eqS ?_ | with_reducible refine rd_neS ?_ | with_reducible refine rd_isN ?_ | with_reducible refine rd_notN ?_ | with_reducible refine rd_inSign ?_ | with_reducible refine cd_lenL ?_ | ((with_reducible refine' cd_lenS ?h ?_); (case h => first | assumption | omega)) | with_reducible refine cd_lenT ?_ | with_reducible refine cd_lenR ?_ | with_reducible refine cd_abs ?_ | with_reducible refine cd_max2 ?_ | with_reducible refine cd_min2 ?_ | with_reducible refine cd_intB ?_ | with_reducible refine cd_ord ?_ | with_reducible refine g_name ?_ | with_reducible refine ⟨_, rfl, ?_⟩ | with_reducible refine rd_leS ?_ | ((with_reducible refine' w_now ?C ?h ?_); (case C => assumption); (case h => rfl)) | ((with_reducible refine' w_width ?C ?h ?_); (case C => assumption); (case h => rfl)) | ((with_reducible refine' w_height ?C ?h ?_); (case C => assumption); (case h => rfl)) | ((with_reducible refine' w_caret ?C ?h ?_); (case C => assumption); (case h => rfl)) | ((with_reducible refine' w_is_back ?C ?h ?_); (case C => assumption); (case h => rfl)) | ((with_reducible refine' w_anchor ?C ?h ?_); (case C => assumption); (case h => rfl)) | ((with_reducible refine' w_wish ?C ?h ?_); (case C => assumption); (case h => rfl)) | ((with_reducible refine' w_first ?C ?h ?_); (case C => assumption); (case h => rfl)))
local macro_rules | `(tactic| walk_at "xs") => `(tactic| repeat (first | with_reducible refine t_seq ?_ | with_reducible refine t_ret ?_ | with_reducible refine t_set ?_ | with_reducible refine t_drop ?_ | with_reducible refine t_if ?_ | with_reducible refine t_next ?_ | with_reducible refine t_raise ?_ | with_reducible refine t_asg ?_ | with_reducible refine t_retN ?_ | with_reducible refine w_op ?_ | ((with_reducible refine' w_var ?h ?_); (case h => rfl)) | ((with_reducible refine' w_own ?h ?_); (case h => rfl)) | with_reducible refine w_int ?_ | ((with_reducible refine' w_k ?h ?_); (case h => decide +kernel)) | with_reducible refine w_bl ?_ | with_reducible refine w_non ?_ | with_reducible refine w_if ?_ | with_reducible refine w_andV ?_ | with_reducible refine w_orV ?_ | with_reducible refine w_notV ?_ | with_reducible refine w_tup ?_ | with_reducible refine w_lst ?_ | with_reducible refine w_cb ?_ | with_reducible refine w_chain ?_ | with_reducible refine w_slS ?_ | with_reducible refine w_slL ?_ | with_reducible refine w_find1 ?_ | with_reducible refine w_find2 ?_ | with_reducible refine w_rfind1 ?_ | with_reducible refine w_rfind3 ?_ | with_reducible refine w_neg ?_ | with_reducible refine w_ref ?_ | with_reducible refine w_ty ?_ | with_reducible refine wt_test ?_ | with_reducible refine wt_B ?_ | with_reducible refine wt_and ?_ | with_reducible refine wt_or ?_ | with_reducible refine wt_not ?_ | with_reducible refine wt_yes ?_ | with_reducible refine wd_nil ?_ | with_reducible refine wd_cons ?_ | with_reducible refine wa_nil ?_ | with_reducible refine wa_cons ?_ | with_reducible refine wo_none ?_ | with_reducible refine wo_some ?_ | with_reducible refine rd_I0i ?_ | with_reducible refine rd_I0b ?_ | with_reducible refine rd_eqI ?_ | with_reducible refine rd_neI ?_ | with_reducible refine rd_eqS ?_ | with_reducible refine rd_neS ?_ | with_reducible refine rd_isN ?_ | with_reducible refine rd_notN ?_ | with_reducible refine rd_inSign ?_ | with_reducible refine cd_lenL ?_ | ((with_reducible refine' cd_lenS ?h ?_); (case h => first | assumption | omega)) | with_reducible refine cd_lenT ?_ | with_reducible refine cd_lenR ?_ | with_reducible refine cd_abs ?_ | with_reducible refine cd_max2 ?_ | with_reducible refine cd_min2 ?_ | with_reducible refine cd_intB ?_ | with_reducible refine cd_ord ?_ | with_reducible refine g_name ?_ | with_reducible refine ⟨_, rfl, ?_⟩ | with_reducible refine rd_leS ?_ | ((with_reducible refine' w_now ?C ?h ?_); (case C => assumption); (case h => rfl)) | ((with_reducible refine' w_width ?C ?h ?_); (case C => assumption); (case h => rfl)) | ((with_reducible refine' w_height ?C ?h ?_); (case C => assumption); (case h => rfl)) | ((with_reducible refine' w_caret ?C ?h ?_); (case C => assumption); (case h => rfl)) | ((with_reducible refine' w_is_back ?C ?h ?_); (case C => assumption); (case h => rfl)) | ((with_reducible refine' w_anchor ?C ?h ?_); (case C => assumption); (case h => rfl)) | ((with_reducible refine' w_wish ?C ?h ?_); (case C => assumption); (case h => rfl)) | ((with_reducible refine' w_first ?C ?h ?_); (case C => assumption); (case h => rfl)) | simp only [List.set_cons_succ, List.set_cons_zero]))
def lets : List Nat := [97, 98, 99, 100, 101, 102, 103, 104, 105, 106, 107, 108, 109, 110, 111, 112, 113, 114, 115, 116, 117, 118, 119, 120, 121, 122, 65, 66, 67, 68, 69, 70, 71, 72, 73, 74, 75, 76, 77, 78, 79, 80, 81, 82, 83, 84, 85, 86, 87, 88, 89, 90, 48, 49, 50, 51, 52, 53, 54, 55, 56, 57]
def isLet (c : Nat) : Bool := decide ((97 ≤ c ∧ c ≤ 122) ∨ (65 ≤ c ∧ c ≤ 90) ∨ (48 ≤ c ∧ c ≤ 57))
theorem lets_mem (c : Nat) : decide (c ∈ lets) = isLet c := by
  unfold isLet lets
  refine decide_eq_decide.mpr ⟨fun h => ?_, fun h => ?_⟩
  · simp only [List.mem_cons, List.not_mem_nil, or_false] at h
    omega
  · simp only [List.mem_cons, List.not_mem_nil, or_false]
    omega
/-- is there a letter at this offset -/
def letAt (t : List Nat) (o : Int) : Bool := decide (0 ≤ o) && (match t[o.toNat]? with | some c => isLet c | none => false)
theorem letAt_nat (t : List Nat) (o : Nat) : letAt t (o : Int) = (match t[o]? with | some c => isLet c | none => false) := by
  unfold letAt
  rw [decide_eq_true (by omega), Bool.true_and, Int.toNat_natCast]
def f_Sheet_is_letter (K : PySem.W.Frag) : FS := fun ys R _ => ∃ (p : Addr) (s : Sh) (o : Int), ys = [.o p (osh K s), .d (.int o)] ∧ ShC K ∧ Wf s ∧ R (.bl (letAt s.now o)) [some (.o p (osh K s)), none]
abbrev sp_Sheet_is_letter (K : PySem.W.Frag) : Sp := SpOf K (f_Sheet_is_letter K)
def t_Sheet_is_letter (K : PySem.W.Frag) (E : XK) : TS := (tRet (tAndV (tChain rLe' rLt' (tC (.int 0)) (tVar 1) (tCB (rLen K) (tCons (tFld K (tVar 0) "now") tNil))) (tOp rInSign (tOp rIxS (tFld K (tVar 0) "now") (tVar 1)) (tC (.str "abcdefghijklmnopqrstuvwxyzABCDEFGHIJKLMNOPQRSTUVWXYZ0123456789")))))
theorem len_f_Sheet_is_letter {K : PySem.W.Frag} : ∀ ds R X, f_Sheet_is_letter K ds R X → ds.length = 2 := by
  rintro ds R X ⟨_, _, _, rfl, _⟩
  rfl
theorem len_Sheet_is_letter {K : PySem.W.Frag} : ∀ vs H Q E, sp_Sheet_is_letter K vs H Q E → vs.length = 2 := fun _ _ _ _ h => spOf_len len_f_Sheet_is_letter h
theorem cl_letter {K : PySem.W.Frag} {δ : Dl} {P : PX} {X : XX} {p : Addr} {s : Sh} {i : Nat} {o : Int} (hi : δ[i]? = some (some (.o p (osh K s)))) (C : ShC K) (wf : Wf s) (hs : δ.set i (some (.o p (osh K s))) = δ) (k : P (.d (.bl (letAt s.now o))) δ) : Cl (f_Sheet_is_letter K) [.a p, .d (.int o)] δ P X :=
  ⟨_, [some i, none], .o hi (.d .nil), uq2, p, s, o, rfl, C, wf, by
    show P _ (δ.set i (some (.o p (osh K s))))
    rw [hs]
    exact k⟩
theorem pure_Sheet_is_letter {K : PySem.W.Frag} {vs : List V} {H : Hp} {Q : VK} {E : XK} (h : sp_Sheet_is_letter K vs H Q E) : t_Sheet_is_letter K E { nx := fun _ H' => Q .non H', rt := Q } (L2.start ["self", "offset"] vs) H := by
  refine body (ts := t_Sheet_is_letter K) 2 0 rfl len_f_Sheet_is_letter (fun ds R X ⟨p, s, o, e, C, wf, hk⟩ => ?_) h
  subst e
  show T K _ (t_Sheet_is_letter K E) [some (.o p (osh K s)), some (.d (.int o))] _ _ _
  unfold t_Sheet_is_letter
  have hl := wf.l
  walk_at "xs"
  refine ⟨fun hb => ?_, fun hb => ?_⟩
  · have hb := of_decide_eq_true hb
    obtain ⟨u, rfl⟩ : ∃ u : Nat, o = (u : Int) := ⟨o.toNat, by omega⟩
    rw [letAt_nat] at hk
    walk_at "xs"
    refine ⟨fun hc => ?_, fun hc => ?_⟩
    · have hc := of_decide_eq_true hc
      obtain ⟨c, hcc⟩ : ∃ c, s.now[u]? = some c := ⟨_, List.getElem?_eq_getElem (by omega)⟩
      rw [hcc] at hk
      walk_at "xs"
      refine rd_ixS (by omega) (atI_nat hcc) ?_
      walk_at "xs"
      refine w_str lets (by decide +kernel) ?_
      walk_at "xs"
      rw [lets_mem]
      exact ⟨hk, rfl, trivial⟩
    · have hc := of_decide_eq_false hc
      rw [List.getElem?_eq_none (by omega)] at hk
      exact ⟨hk, rfl, trivial⟩
  · have hb := of_decide_eq_false hb
    unfold letAt at hk
    rw [decide_eq_false hb, Bool.false_and] at hk
    refine ⟨_, rfl, (fun z => nomatch z), fun _ => ⟨hk, rfl, trivial⟩⟩
/-! ### words -/
theorem letAt_lt {p : List Nat} {o : Nat} (h : letAt p (o : Int) = true) : o < p.length := by
  rw [letAt_nat] at h
  refine Nat.lt_of_not_le fun z => ?_
  rw [List.getElem?_eq_none z] at h
  exact nomatch h
/-- forth to a word's end -/
structure WR (p : List Nat) (o e : Nat) : Prop where
  ex : ∃ b, o ≤ b ∧ b ≤ e ∧ e ≤ p.length ∧ (∀ j, o ≤ j → j < b → letAt p (j : Int) = false) ∧ (∀ j, b ≤ j → j < e → letAt p (j : Int) = true) ∧ (b = p.length ∨ letAt p (b : Int) = true) ∧ letAt p (e : Int) = false
def f_Sheet_word_right (K : PySem.W.Frag) : FS := fun ys R _ => ∃ (p : Addr) (s : Sh) (o : Nat), ys = [.o p (osh K s), .d (.int o)] ∧ ShC K ∧ Wf s ∧ o ≤ s.now.length ∧ ∀ e, WR s.now o e → R (.int ((e : Nat) : Int)) [some (.o p (osh K s)), none]
abbrev sp_Sheet_word_right (K : PySem.W.Frag) : Sp := SpOf K (f_Sheet_word_right K)
def t_Sheet_word_right (K : PySem.W.Frag) (E : XK) : TS := (tSeq (tWhile (tAnd (tTest (tOp rLt' (tVar 1) (tCB (rLen K) (tCons (tFld K (tVar 0) "now") tNil)))) (tNot (tB (tMeth (He.ga K "Sheet") "is_letter" (sp_Sheet_is_letter K) [] L2.E0 (tVar 0) (tCons (tVar 1) tNil))))) (tAsg (tOp rPlus (tVar 1) (tC (.int 1))) (gName 1)))
  (tSeq (tWhile (tB (tMeth (He.ga K "Sheet") "is_letter" (sp_Sheet_is_letter K) [] L2.E0 (tVar 0) (tCons (tVar 1) tNil))) (tAsg (tOp rPlus (tVar 1) (tC (.int 1))) (gName 1)))
  (tRet (tVar 1))))
theorem len_f_Sheet_word_right {K : PySem.W.Frag} : ∀ ds R X, f_Sheet_word_right K ds R X → ds.length = 2 := by
  rintro ds R X ⟨_, _, _, rfl, _⟩
  rfl
theorem len_Sheet_word_right {K : PySem.W.Frag} : ∀ vs H Q E, sp_Sheet_word_right K vs H Q E → vs.length = 2 := fun _ _ _ _ h => spOf_len len_f_Sheet_word_right h
theorem pure_Sheet_word_right {K : PySem.W.Frag} {vs : List V} {H : Hp} {Q : VK} {E : XK} (h : sp_Sheet_word_right K vs H Q E) : t_Sheet_word_right K E { nx := fun _ H' => Q .non H', rt := Q } (L2.start ["self", "offset"] vs) H := by
  refine body (ts := t_Sheet_word_right K) 2 0 rfl len_f_Sheet_word_right (fun ds R X ⟨p, s, o, e, C, wf, ho, hk⟩ => ?_) h
  subst e
  show T K _ (t_Sheet_word_right K E) [some (.o p (osh K s)), some (.d (.int o))] _ _ _
  unfold t_Sheet_word_right
  have hl := wf.l
  refine t_seq (t_while (fun m δ => ∃ b : Nat, m = s.now.length - b ∧ o ≤ b ∧ b ≤ s.now.length ∧ (∀ j, o ≤ j → j < b → letAt s.now (j : Int) = false) ∧ δ = [some (.o p (osh K s)), some (.d (.int ((b : Nat) : Int)))]) (s.now.length - o) ⟨o, rfl, Nat.le_refl _, ho, (fun j h1 h2 => by omega), rfl⟩ ?_)
  rintro m δ ⟨b, rfl, ob, bl, hno, rfl⟩
  have second : (b = s.now.length ∨ letAt s.now (b : Int) = true) → T K (fun c d _ H => E c d H) (tSeq (tWhile (tB (tMeth (He.ga K "Sheet") "is_letter" (sp_Sheet_is_letter K) [] L2.E0 (tVar 0) (tCons (tVar 1) tNil))) (tAsg (tOp rPlus (tVar 1) (tC (.int 1))) (gName 1))) (tRet (tVar 1))) [some (.o p (osh K s)), some (.d (.int ((b : Nat) : Int)))] (fun δ' => R .non (outs [.o p (osh K s), .d (.int o)] δ') ∧ keepP [.o p (osh K s), .d (.int o)] δ') (fun x δ' => RetD K 2 x δ' (fun d => R d (outs [.o p (osh K s), .d (.int o)] δ')) ∧ keepP [.o p (osh K s), .d (.int o)] δ') (fun C δ' => X C (outs [.o p (osh K s), .d (.int o)] δ') ∧ keepP [.o p (osh K s), .d (.int o)] δ') := fun hb => by
    refine t_seq (t_while (fun m δ => ∃ e : Nat, m = s.now.length - e ∧ b ≤ e ∧ e ≤ s.now.length ∧ (∀ j, b ≤ j → j < e → letAt s.now (j : Int) = true) ∧ δ = [some (.o p (osh K s)), some (.d (.int ((e : Nat) : Int)))]) (s.now.length - b) ⟨b, rfl, Nat.le_refl _, bl, (fun j h1 h2 => by omega), rfl⟩ ?_)
    rintro m δ ⟨e, rfl, be, el, hyes, rfl⟩
    walk_at "xs"
    refine w_meth (by decide) ?_
    walk_at "xs"
    refine ⟨_, 0, s, rfl, rfl, ?_⟩
    walk_at "xs"
    refine cl_letter (i := 0) rfl C wf rfl ⟨_, rfl, fun h => ?_, fun h => ?_⟩
    · have := letAt_lt h
      walk_at "xs"
      refine ⟨s.now.length - (e + 1), by omega, e + 1, rfl, by omega, by omega, fun j h1 h2 => ?_, rfl⟩
      rcases Nat.lt_or_ge j e with q | q
      · exact hyes j h1 q
      · obtain rfl : j = e := by omega
        exact h
    · walk_at "xs"
      exact ⟨hk e ⟨b, ob, be, el, hno, hyes, hb, h⟩, rfl, trivial⟩
  walk_at "xs"
  refine ⟨fun h1 => ?_, fun h1 => ?_⟩
  · have h1 := of_decide_eq_true h1
    walk_at "xs"
    refine w_meth (by decide) ?_
    walk_at "xs"
    refine ⟨_, 0, s, rfl, rfl, ?_⟩
    walk_at "xs"
    refine cl_letter (i := 0) rfl C wf rfl ⟨_, rfl, fun h => ?_, fun h => second (.inr (by simpa using h))⟩
    have h : letAt s.now (b : Int) = false := by simpa using h
    walk_at "xs"
    refine ⟨s.now.length - (b + 1), by omega, b + 1, rfl, by omega, by omega, fun j j1 j2 => ?_, rfl⟩
    rcases Nat.lt_or_ge j b with q | q
    · exact hno j j1 q
    · obtain rfl : j = b := by omega
      exact h
  · have h1 := of_decide_eq_false h1
    exact ⟨(fun z => nomatch z), fun _ => second (.inl (by omega))⟩
/-- back to a word's beginning -/
structure WL (p : List Nat) (o e : Nat) : Prop where
  ex : ∃ b, e ≤ b ∧ b ≤ o ∧ (∀ j, b ≤ j → j < o → letAt p (j : Int) = false) ∧ (∀ j, e ≤ j → j < b → letAt p (j : Int) = true) ∧ (b = 0 ∨ letAt p ((b : Int) - 1) = true) ∧ letAt p ((e : Int) - 1) = false
def f_Sheet_word_left (K : PySem.W.Frag) : FS := fun ys R _ => ∃ (p : Addr) (s : Sh) (o : Nat), ys = [.o p (osh K s), .d (.int o)] ∧ ShC K ∧ Wf s ∧ o ≤ s.now.length ∧ ∀ e, WL s.now o e → R (.int ((e : Nat) : Int)) [some (.o p (osh K s)), none]
abbrev sp_Sheet_word_left (K : PySem.W.Frag) : Sp := SpOf K (f_Sheet_word_left K)
def t_Sheet_word_left (K : PySem.W.Frag) (E : XK) : TS := (tSeq (tWhile (tAnd (tTest (tOp rGt' (tVar 1) (tC (.int 0)))) (tNot (tB (tMeth (He.ga K "Sheet") "is_letter" (sp_Sheet_is_letter K) [] L2.E0 (tVar 0) (tCons (tOp rMinus (tVar 1) (tC (.int 1))) tNil))))) (tAsg (tOp rMinus (tVar 1) (tC (.int 1))) (gName 1)))
  (tSeq (tWhile (tB (tMeth (He.ga K "Sheet") "is_letter" (sp_Sheet_is_letter K) [] L2.E0 (tVar 0) (tCons (tOp rMinus (tVar 1) (tC (.int 1))) tNil))) (tAsg (tOp rMinus (tVar 1) (tC (.int 1))) (gName 1)))
  (tRet (tVar 1))))
theorem len_f_Sheet_word_left {K : PySem.W.Frag} : ∀ ds R X, f_Sheet_word_left K ds R X → ds.length = 2 := by
  rintro ds R X ⟨_, _, _, rfl, _⟩
  rfl
theorem len_Sheet_word_left {K : PySem.W.Frag} : ∀ vs H Q E, sp_Sheet_word_left K vs H Q E → vs.length = 2 := fun _ _ _ _ h => spOf_len len_f_Sheet_word_left h
theorem pure_Sheet_word_left {K : PySem.W.Frag} {vs : List V} {H : Hp} {Q : VK} {E : XK} (h : sp_Sheet_word_left K vs H Q E) : t_Sheet_word_left K E { nx := fun _ H' => Q .non H', rt := Q } (L2.start ["self", "offset"] vs) H := by
  refine body (ts := t_Sheet_word_left K) 2 0 rfl len_f_Sheet_word_left (fun ds R X ⟨p, s, o, e, C, wf, ho, hk⟩ => ?_) h
  subst e
  show T K _ (t_Sheet_word_left K E) [some (.o p (osh K s)), some (.d (.int o))] _ _ _
  unfold t_Sheet_word_left
  have hl := wf.l
  refine t_seq (t_while (fun m δ => ∃ b : Nat, b = m ∧ b ≤ o ∧ (∀ j, b ≤ j → j < o → letAt s.now (j : Int) = false) ∧ δ = [some (.o p (osh K s)), some (.d (.int ((b : Nat) : Int)))]) o ⟨o, rfl, Nat.le_refl _, (fun j h1 h2 => by omega), rfl⟩ ?_)
  rintro m δ ⟨b, rfl, ob, hno, rfl⟩
  have second : (b = 0 ∨ letAt s.now ((b : Int) - 1) = true) → T K (fun c d _ H => E c d H) (tSeq (tWhile (tB (tMeth (He.ga K "Sheet") "is_letter" (sp_Sheet_is_letter K) [] L2.E0 (tVar 0) (tCons (tOp rMinus (tVar 1) (tC (.int 1))) tNil))) (tAsg (tOp rMinus (tVar 1) (tC (.int 1))) (gName 1))) (tRet (tVar 1))) [some (.o p (osh K s)), some (.d (.int ((b : Nat) : Int)))] (fun δ' => R .non (outs [.o p (osh K s), .d (.int o)] δ') ∧ keepP [.o p (osh K s), .d (.int o)] δ') (fun x δ' => RetD K 2 x δ' (fun d => R d (outs [.o p (osh K s), .d (.int o)] δ')) ∧ keepP [.o p (osh K s), .d (.int o)] δ') (fun C δ' => X C (outs [.o p (osh K s), .d (.int o)] δ') ∧ keepP [.o p (osh K s), .d (.int o)] δ') := fun hb => by
    refine t_seq (t_while (fun m δ => ∃ e : Nat, e = m ∧ e ≤ b ∧ (∀ j, e ≤ j → j < b → letAt s.now (j : Int) = true) ∧ δ = [some (.o p (osh K s)), some (.d (.int ((e : Nat) : Int)))]) b ⟨b, rfl, Nat.le_refl _, (fun j h1 h2 => by omega), rfl⟩ ?_)
    rintro m δ ⟨e, rfl, be, hyes, rfl⟩
    walk_at "xs"
    refine w_meth (by decide) ?_
    walk_at "xs"
    refine ⟨_, 0, s, rfl, rfl, ?_⟩
    walk_at "xs"
    refine cl_letter (i := 0) rfl C wf rfl ⟨_, rfl, fun h => ?_, fun h => ?_⟩
    · obtain ⟨e, rfl⟩ : ∃ d, e = d + 1 := ⟨e - 1, by
        have : 0 < e := Nat.pos_of_ne_zero fun z => by
          rw [z] at h
          unfold letAt at h
          rw [decide_eq_false (by decide), Bool.false_and] at h
          exact nomatch h
        omega⟩
      have e1 : ((e + 1 : Nat) : Int) - 1 = (e : Int) := by omega
      rw [e1] at h
      walk_at "xs"
      rw [e1]
      refine ⟨e, by omega, e, rfl, by omega, fun j h1 h2 => ?_, rfl⟩
      rcases Nat.lt_or_ge e j with q | q
      · exact hyes j (by omega) h2
      · obtain rfl : j = e := by omega
        exact h
    · walk_at "xs"
      exact ⟨hk e ⟨b, be, ob, hno, hyes, hb, h⟩, rfl, trivial⟩
  walk_at "xs"
  refine ⟨fun h1 => ?_, fun h1 => ?_⟩
  · have h1 := of_decide_eq_true h1
    walk_at "xs"
    refine w_meth (by decide) ?_
    walk_at "xs"
    refine ⟨_, 0, s, rfl, rfl, ?_⟩
    walk_at "xs"
    refine cl_letter (i := 0) rfl C wf rfl ⟨_, rfl, fun h => ?_, fun h => second (.inr (by simpa using h))⟩
    have h : letAt s.now ((b : Int) - 1) = false := by simpa using h
    obtain ⟨b, rfl⟩ : ∃ d, b = d + 1 := ⟨b - 1, by omega⟩
    have e1 : ((b + 1 : Nat) : Int) - 1 = (b : Int) := by omega
    rw [e1] at h
    walk_at "xs"
    rw [e1]
    refine ⟨b, by omega, b, rfl, by omega, fun j j1 j2 => ?_, rfl⟩
    rcases Nat.lt_or_ge b j with q | q
    · exact hno j (by omega) j2
    · obtain rfl : j = b := by omega
      exact h
  · have h1 := of_decide_eq_false h1
    exact ⟨(fun z => nomatch z), fun _ => second (.inl (by omega))⟩
end Cr

namespace Cr
open PySem L2
local macro_rules | `(tactic| walk_at "x") => `(tactic| first | with_reducible refine t_seq ?_ | with_reducible refine t_ret ?_ | with_reducible refine t_set ?_ | with_reducible refine t_drop ?_ | with_reducible refine t_if ?_ | with_reducible refine t_next ?_ | with_reducible refine t_raise ?_ | with_reducible refine t_asg ?_ | with_reducible refine t_retN ?_ | with_reducible refine w_op ?_ | ((with_reducible refine' w_var ?h ?_); (case h => rfl)) | ((with_reducible refine' w_own ?h ?_); (case h => rfl)) | with_reducible refine w_int ?_ | ((with_reducible refine' w_k ?h ?_); (case h => decide +kernel)) | with_reducible refine w_bl ?_ | with_reducible refine w_non ?_ | with_reducible refine w_if ?_ | with_reducible refine w_andV ?_ | with_reducible refine w_orV ?_ | with_reducible refine w_notV ?_ | with_reducible refine w_tup ?_ | with_reducible refine w_lst ?_ | with_reducible refine w_cb ?_ | with_reducible refine w_chain ?_ | with_reducible refine w_slS ?_ | with_reducible refine w_slL ?_ | with_reducible refine w_find1 ?_ | with_reducible refine w_find2 ?_ | with_reducible refine w_rfind1 ?_ | with_reducible refine w_rfind3 ?_ | with_reducible refine w_neg ?_ | with_reducible refine w_ref ?_ | with_reducible refine w_ty ?_ | with_reducible refine wt_test ?_ | with_reducible refine wt_B ?_ | with_reducible refine wt_and ?_ | with_reducible refine wt_or ?_ | with_reducible refine wt_not ?_ | with_reducible refine wt_yes ?_ | with_reducible refine wd_nil ?_ | with_reducible refine wd_cons ?_ | with_reducible refine wa_nil ?_ | with_reducible refine wa_cons ?_ | with_reducible refine wo_none ?_ | with_reducible refine wo_some ?_ | with_reducible refine rd_I0i ?_ | with_reducible refine rd_I0b ?_ | with_reducible refine rd_eqI ?_ | with_reducible refine rd_neI ?_ | with_reducible refine rd_eqS ?_ | with_reducible refine rd_neS ?_ | with_reducible refine rd_isN ?_ | with_reducible refine rd_notN ?_ | with_reducible refine rd_inSign ?_ | with_reducible refine cd_lenL ?_ | ((with_reducible refine' cd_lenS ?h ?_); (case h => first | assumption | omega)) | with_reducible refine cd_lenT ?_ | with_reducible refine cd_lenR ?_ | with_reducible refine cd_abs ?_ | with_reducible refine cd_max2 ?_ | with_reducible refine cd_min2 ?_ | with_reducible refine cd_intB ?_ | with_reducible refine cd_ord ?_ | with_reducible refine g_name ?_ | with_reducible refine ⟨_, rfl, ?_⟩ | with_reducible refine rd_leS ?_ | ((with_reducible refine' w_now ?C ?h ?_); (case C => assumption); (case h => rfl)) | ((with_reducible refine' w_width ?C ?h ?_); (case C => assumption); (case h => rfl)) | ((with_reducible refine' w_height ?C ?h ?_); (case C => assumption); (case h => rfl)) | ((with_reducible refine' w_caret ?C ?h ?_); (case C => assumption); (case h => rfl)) | ((with_reducible refine' w_is_back ?C ?h ?_); (case C => assumption); (case h => rfl)) | ((with_reducible refine' w_anchor ?C ?h ?_); (case C => assumption); (case h => rfl)) | ((with_reducible refine' w_wish ?C ?h ?_); (case C => assumption); (case h => rfl)) | ((with_reducible refine' w_first ?C ?h ?_); (case C => assumption); (case h => rfl)))
local macro_rules | `(tactic| walk_at "xs") => `(tactic| repeat (first | with_reducible refine t_seq ?_ | with_reducible refine t_ret ?_ | with_reducible refine t_set ?_ | with_reducible refine t_drop ?_ | with_reducible refine t_if ?_ | with_reducible refine t_next ?_ | with_reducible refine t_raise ?_ | with_reducible refine t_asg ?_ | with_reducible refine t_retN ?_ | with_reducible refine w_op ?_ | ((with_reducible refine' w_var ?h ?_); (case h => rfl)) | ((with_reducible refine' w_own ?h ?_); (case h => rfl)) | with_reducible refine w_int ?_ | ((with_reducible refine' w_k ?h ?_); (case h => decide +kernel)) | with_reducible refine w_bl ?_ | with_reducible refine w_non ?_ | with_reducible refine w_if ?_ | with_reducible refine w_andV ?_ | with_reducible refine w_orV ?_ | with_reducible refine w_notV ?_ | with_reducible refine w_tup ?_ | with_reducible refine w_lst ?_ | with_reducible refine w_cb ?_ | with_reducible refine w_chain ?_ | with_reducible refine w_slS ?_ | with_reducible refine w_slL ?_ | with_reducible refine w_find1 ?_ | with_reducible refine w_find2 ?_ | with_reducible refine w_rfind1 ?_ | with_reducible refine w_rfind3 ?_ | with_reducible refine w_neg ?_ | with_reducible refine w_ref ?_ | with_reducible refine w_ty ?_ | with_reducible refine wt_test ?_ | with_reducible refine wt_B ?_ | with_reducible refine wt_and ?_ | with_reducible refine wt_or ?_ | with_reducible refine wt_not ?_ | with_reducible refine wt_yes ?_ | with_reducible refine wd_nil ?_ | with_reducible refine wd_cons ?_ | with_reducible refine wa_nil ?_ | with_reducible refine wa_cons ?_ | with_reducible refine wo_none ?_ | with_reducible refine wo_some ?_ | with_reducible refine rd_I0i ?_ | with_reducible refine rd_I0b ?_ | with_reducible refine rd_eqI ?_ | with_reducible refine rd_neI ?_ | with_reducible refine rd_eqS ?_ | with_reducible refine rd_neS ?_ | with_reducible refine rd_isN ?_ | with_reducible refine rd_notN ?_ | with_reducible refine rd_inSign ?_ | with_reducible refine cd_lenL ?_ | ((with_reducible refine' cd_lenS ?h ?_); (case h => first | assumption | omega)) | with_reducible refine cd_lenT ?_ | with_reducible refine cd_lenR ?_ | with_reducible refine cd_abs ?_ | with_reducible refine cd_max2 ?_ | with_reducible refine cd_min2 ?_ | with_reducible refine cd_intB ?_ | with_reducible refine cd_ord ?_ | with_reducible refine g_name ?_ | with_reducible refine ⟨_, rfl, ?_⟩ | with_reducible refine rd_leS ?_ | ((with_reducible refine' w_now ?C ?h ?_); (case C => assumption); (case h => rfl)) | ((with_reducible refine' w_width ?C ?h ?_); (case C => assumption); (case h => rfl)) | ((with_reducible refine' w_height ?C ?h ?_); (case C => assumption); (case h => rfl)) | ((with_reducible refine' w_caret ?C ?h ?_); (case C => assumption); (case h => rfl)) | ((with_reducible refine' w_is_back ?C ?h ?_); (case C => assumption); (case h => rfl)) | ((with_reducible refine' w_anchor ?C ?h ?_); (case C => assumption); (case h => rfl)) | ((with_reducible refine' w_wish ?C ?h ?_); (case C => assumption); (case h => rfl)) | ((with_reducible refine' w_first ?C ?h ?_); (case C => assumption); (case h => rfl)) | simp only [List.set_cons_succ, List.set_cons_zero]))
def mLeft : List Nat := [108, 101, 102, 116]
def mRight : List Nat := [114, 105, 103, 104, 116]
def mWL : List Nat := [119, 111, 114, 100, 108, 101, 102, 116]
def mWR : List Nat := [119, 111, 114, 100, 114, 105, 103, 104, 116]
def mTop : List Nat := [116, 111, 112]
def mBot : List Nat := [98, 111, 116, 116, 111, 109]
def mPU : List Nat := [112, 97, 114, 97, 117, 112]
/-- back to a paragraph's beginning -/
structure PU (t : List Nat) (c e : Nat) : Prop where
  at_ : e = 0 ∨ (1 ≤ e ∧ e < c ∧ t[e - 1]? = some 10)
  no : ∀ k, 1 ≤ k → k < c → t[k - 1]? = some 10 → k ≤ e
/-- forth to a paragraph's end -/
structure PD (t : List Nat) (c e : Nat) : Prop where
  at_ : e = t.length ∨ (c < e ∧ e < t.length ∧ t[e]? = some 10)
  no : ∀ k, c < k → k < t.length → t[k]? = some 10 → e ≤ k
def FG (t : List Nat) (c : Nat) (mv : List Nat) (e : Nat) : Prop :=
  if mv = mLeft then e = c - 1 else if mv = mRight then e = min t.length (c + 1) else if mv = mWL then WL t c e else if mv = mWR then WR t c e else if mv = mTop then e = 0 else if mv = mBot then e = t.length else if mv = mPU then PU t c e else PD t c e
theorem PU.uniq {t : List Nat} {c e f : Nat} (a : PU t c e) (b : PU t c f) : e = f := by
  have h1 : e ≤ f := by
    rcases a.at_ with h | ⟨h1, h2, h3⟩
    · omega
    · exact b.no e h1 h2 h3
  have h2 : f ≤ e := by
    rcases b.at_ with h | ⟨h1, h2, h3⟩
    · omega
    · exact a.no f h1 h2 h3
  omega
theorem PD.uniq {t : List Nat} {c e f : Nat} (hc : c ≤ t.length) (a : PD t c e) (b : PD t c f) : e = f := by
  have l1 : e ≤ t.length := by rcases a.at_ with h | ⟨_, h, _⟩ <;> omega
  have l2 : f ≤ t.length := by rcases b.at_ with h | ⟨_, h, _⟩ <;> omega
  have h1 : f ≤ e := by
    rcases a.at_ with h | ⟨h1, h2, h3⟩
    · omega
    · exact b.no e h1 h2 h3
  have h2 : e ≤ f := by
    rcases b.at_ with h | ⟨h1, h2, h3⟩
    · omega
    · exact a.no f h1 h2 h3
  omega
theorem WR.uniq {t : List Nat} {o e f : Nat} (a : WR t o e) (b : WR t o f) : e = f := by
  obtain ⟨x, a1, a2, a3, a4, a5, a6, a7⟩ := a.ex
  obtain ⟨y, b1, b2, b3, b4, b5, b6, b7⟩ := b.ex
  have hxy : x = y := by
    rcases Nat.lt_trichotomy x y with h | h | h
    · have q := b4 x a1 h
      rcases a6 with z | z
      · omega
      · rw [q] at z
        exact nomatch z
    · exact h
    · have q := a4 y b1 h
      rcases b6 with z | z
      · omega
      · rw [q] at z
        exact nomatch z
  subst hxy
  rcases Nat.lt_trichotomy e f with h | h | h
  · have q := b5 e a2 h
    rw [a7] at q
    exact nomatch q
  · exact h
  · have q := a5 f b2 h
    rw [b7] at q
    exact nomatch q
theorem WL.uniq {t : List Nat} {o e f : Nat} (a : WL t o e) (b : WL t o f) : e = f := by
  obtain ⟨x, a1, a2, a4, a5, a6, a7⟩ := a.ex
  obtain ⟨y, b1, b2, b4, b5, b6, b7⟩ := b.ex
  have cst : ∀ {k : Nat}, 0 < k → ((k : Int) - 1) = ((k - 1 : Nat) : Int) := fun h => by omega
  have hxy : x = y := by
    rcases Nat.lt_trichotomy x y with h | h | h
    · rcases b6 with z | z
      · omega
      · rw [cst (by omega)] at z
        rw [a4 (y - 1) (by omega) (by omega)] at z
        exact nomatch z
    · exact h
    · rcases a6 with z | z
      · omega
      · rw [cst (by omega)] at z
        rw [b4 (x - 1) (by omega) (by omega)] at z
        exact nomatch z
  subst hxy
  rcases Nat.lt_trichotomy e f with h | h | h
  · rw [cst (by omega)] at b7
    rw [a5 (f - 1) (by omega) (by omega)] at b7
    exact nomatch b7
  · exact h
  · rw [cst (by omega)] at a7
    rw [b5 (e - 1) (by omega) (by omega)] at a7
    exact nomatch a7
theorem FG.uniq {t : List Nat} {c : Nat} {mv : List Nat} {e f : Nat} (hc : c ≤ t.length) (a : FG t c mv e) (b : FG t c mv f) : e = f := by
  unfold FG at a b
  split at a
  · rw [if_pos (by assumption)] at b
    omega
  · rw [if_neg (by assumption)] at b
    split at a
    · rw [if_pos (by assumption)] at b
      omega
    · rw [if_neg (by assumption)] at b
      split at a
      · rw [if_pos (by assumption)] at b
        exact a.uniq b
      · rw [if_neg (by assumption)] at b
        split at a
        · rw [if_pos (by assumption)] at b
          exact a.uniq b
        · rw [if_neg (by assumption)] at b
          split at a
          · rw [if_pos (by assumption)] at b
            omega
          · rw [if_neg (by assumption)] at b
            split at a
            · rw [if_pos (by assumption)] at b
              omega
            · rw [if_neg (by assumption)] at b
              split at a
              · rw [if_pos (by assumption)] at b
                exact a.uniq b
              · rw [if_neg (by assumption)] at b
                exact PD.uniq hc a b
end Cr

namespace Cr
open PySem L2
local macro_rules | `(tactic| walk_at "x") => `(tactic| first | with_reducible refine t_seq ?_ | with_reducible refine t_ret ?_ | with_reducible refine t_set ?_ | with_reducible refine t_drop ?_ | with_reducible refine t_if ?_ | with_reducible refine t_next ?_ | with_reducible refine t_raise ?_ | with_reducible refine t_asg ?_ | with_reducible refine t_retN ?_ | with_reducible refine w_op ?_ | ((with_reducible refine' w_var ?h ?_); (case h => rfl)) | ((with_reducible refine' w_own ?h ?_); (case h => rfl)) | with_reducible refine w_int ?_ | ((with_reducible refine' w_k ?h ?_); (case h => decide +kernel)) | with_reducible refine w_bl ?_ | with_reducible refine w_non ?_ | with_reducible refine w_if ?_ | with_reducible refine w_andV ?_ | with_reducible refine w_orV ?_ | with_reducible refine w_notV ?_ | with_reducible refine w_tup ?_ | with_reducible refine w_lst ?_ | with_reducible refine w_cb ?_ | with_reducible refine w_chain ?_ | with_reducible refine w_slS ?_ | with_reducible refine w_slL ?_ | with_reducible refine w_find1 ?_ | with_reducible refine w_find2 ?_ | with_reducible refine w_rfind1 ?_ | with_reducible refine w_rfind3 ?_ | with_reducible refine w_neg ?_ | with_reducible refine w_ref ?_ | with_reducible refine w_ty ?_ | with_reducible refine wt_test ?_ | with_reducible refine wt_B ?_ | with_reducible refine wt_and ?_ | with_reducible refine wt_or ?_ | with_reducible refine wt_not ?_ | with_reducible refine wt_yes ?_ | with_reducible refine wd_nil ?_ | with_reducible refine wd_cons ?_ | with_reducible refine wa_nil ?_ | with_reducible refine wa_cons ?_ | with_reducible refine wo_none ?_ | with_reducible refine wo_some ?_ | with_reducible refine rd_I0i ?_ | with_reducible refine rd_I0b ?_ | with_reducible refine rd_eqI ?_ | with_reducible refine rd_neI ?_ | with_reducible refine rd_eqS ?_ | with_reducible refine rd_neS ?_ | with_reducible refine rd_isN ?_ | with_reducible refine rd_notN ?_ | with_reducible refine rd_inSign ?_ | with_reducible refine cd_lenL ?_ | ((with_reducible refine' cd_lenS ?h ?_); (case h => first | assumption | omega)) | with_reducible refine cd_lenT ?_ | with_reducible refine cd_lenR ?_ | with_reducible refine cd_abs ?_ | with_reducible refine cd_max2 ?_ | with_reducible refine cd_min2 ?_ | with_reducible refine cd_intB ?_ | with_reducible refine cd_ord ?_ | with_reducible refine g_name ?_ | with_reducible refine ⟨_, rfl, ?_⟩ | with_reducible refine rd_leS ?_ | ((with_reducible refine' w_now ?C ?h ?_); (case C => assumption); (case h => rfl)) | ((with_reducible refine' w_width ?C ?h ?_); (case C => assumption); (case h => rfl)) | ((with_reducible refine' w_height ?C ?h ?_); (case C => assumption); (case h => rfl)) | ((with_reducible refine' w_caret ?C ?h ?_); (case C => assumption); (case h => rfl)) | ((with_reducible refine' w_is_back ?C ?h ?_); (case C => assumption); (case h => rfl)) | ((with_reducible refine' w_anchor ?C ?h ?_); (case C => assumption); (case h => rfl)) | ((with_reducible refine' w_wish ?C ?h ?_); (case C => assumption); (case h => rfl)) | ((with_reducible refine' w_first ?C ?h ?_); (case C => assumption); (case h => rfl)))
local macro_rules | `(tactic| walk_at "xs") => `(tactic| repeat (first | with_reducible refine t_seq ?_ | with_reducible refine t_ret ?_ | with_reducible refine t_set ?_ | with_reducible refine t_drop ?_ | with_reducible refine t_if ?_ | with_reducible refine t_next ?_ | with_reducible refine t_raise ?_ | with_reducible refine t_asg ?_ | with_reducible refine t_retN ?_ | with_reducible refine w_op ?_ | ((with_reducible refine' w_var ?h ?_); (case h => rfl)) | ((with_reducible refine' w_own ?h ?_); (case h => rfl)) | with_reducible refine w_int ?_ | ((with_reducible refine' w_k ?h ?_); (case h => decide +kernel)) | with_reducible refine w_bl ?_ | with_reducible refine w_non ?_ | with_reducible refine w_if ?_ | with_reducible refine w_andV ?_ | with_reducible refine w_orV ?_ | with_reducible refine w_notV ?_ | with_reducible refine w_tup ?_ | with_reducible refine w_lst ?_ | with_reducible refine w_cb ?_ | with_reducible refine w_chain ?_ | with_reducible refine w_slS ?_ | with_reducible refine w_slL ?_ | with_reducible refine w_find1 ?_ | with_reducible refine w_find2 ?_ | with_reducible refine w_rfind1 ?_ | with_reducible refine w_rfind3 ?_ | with_reducible refine w_neg ?_ | with_reducible refine w_ref ?_ | with_reducible refine w_ty ?_ | with_reducible refine wt_test ?_ | with_reducible refine wt_B ?_ | with_reducible refine wt_and ?_ | with_reducible refine wt_or ?_ | with_reducible refine wt_not ?_ | with_reducible refine wt_yes ?_ | with_reducible refine wd_nil ?_ | with_reducible refine wd_cons ?_ | with_reducible refine wa_nil ?_ | with_reducible refine wa_cons ?_ | with_reducible refine wo_none ?_ | with_reducible refine wo_some ?_ | with_reducible refine rd_I0i ?_ | with_reducible refine rd_I0b ?_ | with_reducible refine rd_eqI ?_ | with_reducible refine rd_neI ?_ | with_reducible refine rd_eqS ?_ | with_reducible refine rd_neS ?_ | with_reducible refine rd_isN ?_ | with_reducible refine rd_notN ?_ | with_reducible refine rd_inSign ?_ | with_reducible refine cd_lenL ?_ | ((with_reducible refine' cd_lenS ?h ?_); (case h => first | assumption | omega)) | with_reducible refine cd_lenT ?_ | with_reducible refine cd_lenR ?_ | with_reducible refine cd_abs ?_ | with_reducible refine cd_max2 ?_ | with_reducible refine cd_min2 ?_ | with_reducible refine cd_intB ?_ | with_reducible refine cd_ord ?_ | with_reducible refine g_name ?_ | with_reducible refine ⟨_, rfl, ?_⟩ | with_reducible refine rd_leS ?_ | ((with_reducible refine' w_now ?C ?h ?_); (case C => assumption); (case h => rfl)) | ((with_reducible refine' w_width ?C ?h ?_); (case C => assumption); (case h => rfl)) | ((with_reducible refine' w_height ?C ?h ?_); (case C => assumption); (case h => rfl)) | ((with_reducible refine' w_caret ?C ?h ?_); (case C => assumption); (case h => rfl)) | ((with_reducible refine' w_is_back ?C ?h ?_); (case C => assumption); (case h => rfl)) | ((with_reducible refine' w_anchor ?C ?h ?_); (case C => assumption); (case h => rfl)) | ((with_reducible refine' w_wish ?C ?h ?_); (case C => assumption); (case h => rfl)) | ((with_reducible refine' w_first ?C ?h ?_); (case C => assumption); (case h => rfl)) | simp only [List.set_cons_succ, List.set_cons_zero]))
theorem atP1 {t : List Nat} {i c : Nat} : atP t [c] i ↔ t[i]? = some c := by
  unfold atP
  simp only [List.length_singleton]
  constructor
  · rintro ⟨h1, h2⟩
    have : ((t.drop i).take 1)[0]? = some c := by rw [h2]; rfl
    rw [List.getElem?_take_of_lt (by omega), List.getElem?_drop] at this
    simpa using this
  · intro h
    have hi := (List.getElem?_eq_some_iff.mp h).1
    refine ⟨by omega, ?_⟩
    rw [List.drop_eq_getElem_cons hi]
    simp only [List.take_succ_cons, List.take_zero, List.cons.injEq, and_true]
    exact (List.getElem?_eq_some_iff.mp h).2
theorem cl_wl {K : PySem.W.Frag} {δ : Dl} {P : PX} {X : XX} {p : Addr} {s : Sh} {i o : Nat} (hi : δ[i]? = some (some (.o p (osh K s)))) (C : ShC K) (wf : Wf s) (ho : o ≤ s.now.length) (hs : δ.set i (some (.o p (osh K s))) = δ) (k : ∀ e, WL s.now o e → P (.d (.int ((e : Nat) : Int))) δ) : Cl (f_Sheet_word_left K) [.a p, .d (.int o)] δ P X :=
  ⟨_, [some i, none], .o hi (.d .nil), uq2, p, s, o, rfl, C, wf, ho, fun e he => by
    show P _ (δ.set i (some (.o p (osh K s))))
    rw [hs]
    exact k e he⟩
theorem cl_wr {K : PySem.W.Frag} {δ : Dl} {P : PX} {X : XX} {p : Addr} {s : Sh} {i o : Nat} (hi : δ[i]? = some (some (.o p (osh K s)))) (C : ShC K) (wf : Wf s) (ho : o ≤ s.now.length) (hs : δ.set i (some (.o p (osh K s))) = δ) (k : ∀ e, WR s.now o e → P (.d (.int ((e : Nat) : Int))) δ) : Cl (f_Sheet_word_right K) [.a p, .d (.int o)] δ P X :=
  ⟨_, [some i, none], .o hi (.d .nil), uq2, p, s, o, rfl, C, wf, ho, fun e he => by
    show P _ (δ.set i (some (.o p (osh K s))))
    rw [hs]
    exact k e he⟩
def f_Sheet_flat_goal (K : PySem.W.Frag) : FS := fun ys R _ => ∃ (p : Addr) (s : Sh) (mv : List Nat), ys = [.o p (osh K s), .d (.str mv)] ∧ ShC K ∧ Wf s ∧ ∀ e, FG s.now s.caret mv e → R (.int ((e : Nat) : Int)) [some (.o p (osh K s)), none]
abbrev sp_Sheet_flat_goal (K : PySem.W.Frag) : Sp := SpOf K (f_Sheet_flat_goal K)
def t_Sheet_flat_goal (K : PySem.W.Frag) (E : XK) : TS := (tSeq (tIfS (tTest (tOp rEq (tVar 1) (tK [108, 101, 102, 116] "left"))) (tRet (tCB rMx2 (tCons (tC (.int 0)) (tCons (tOp rMinus (tFld K (tVar 0) "caret") (tC (.int 1))) tNil)))) tNext)
  (tSeq (tIfS (tTest (tOp rEq (tVar 1) (tK [114, 105, 103, 104, 116] "right"))) (tRet (tCB rMn2 (tCons (tCB (rLen K) (tCons (tFld K (tVar 0) "now") tNil)) (tCons (tOp rPlus (tFld K (tVar 0) "caret") (tC (.int 1))) tNil)))) tNext)
  (tSeq (tIfS (tTest (tOp (rIn K false) (tVar 1) (tTup (tCons (tK [119, 111, 114, 100, 108, 101, 102, 116] "wordleft") (tCons (tK [119, 111, 114, 100, 114, 105, 103, 104, 116] "wordright") tNil))))) (tRet (tIf (tTest (tOp rEq (tVar 1) (tK [119, 111, 114, 100, 108, 101, 102, 116] "wordleft"))) (tMeth (He.ga K "Sheet") "word_left" (sp_Sheet_word_left K) [] L2.E0 (tVar 0) (tCons (tFld K (tVar 0) "caret") tNil)) (tMeth (He.ga K "Sheet") "word_right" (sp_Sheet_word_right K) [] L2.E0 (tVar 0) (tCons (tFld K (tVar 0) "caret") tNil)))) tNext)
  (tSeq (tIfS (tTest (tOp (rIn K false) (tVar 1) (tTup (tCons (tK [116, 111, 112] "top") (tCons (tK [98, 111, 116, 116, 111, 109] "bottom") tNil))))) (tRet (tIf (tTest (tOp rEq (tVar 1) (tK [116, 111, 112] "top"))) (tC (.int 0)) (tCB (rLen K) (tCons (tFld K (tVar 0) "now") tNil)))) tNext)
  (tSeq (tIfS (tTest (tOp rEq (tVar 1) (tK [112, 97, 114, 97, 117, 112] "paraup"))) (tRet (tOp rPlus (tBM K "str" rRfind3 (tFld K (tVar 0) "now") (tCons (tK [10] "\n") (tCons (tC (.int 0)) (tCons (tCB rMx2 (tCons (tC (.int 0)) (tCons (tOp rMinus (tFld K (tVar 0) "caret") (tC (.int 1))) tNil))) tNil)))) (tC (.int 1)))) tNext)
  (tSeq (tAsg (tBM K "str" rFind2 (tFld K (tVar 0) "now") (tCons (tK [10] "\n") (tCons (tOp rPlus (tFld K (tVar 0) "caret") (tC (.int 1))) tNil))) (gName 2))
  (tRet (tIf (tTest (tOp rEq (tVar 2) (tUn (rU fun i => .int (-i)) (tC (.int 1))))) (tCB (rLen K) (tCons (tFld K (tVar 0) "now") tNil)) (tVar 2)))))))))
theorem len_f_Sheet_flat_goal {K : PySem.W.Frag} : ∀ ds R X, f_Sheet_flat_goal K ds R X → ds.length = 2 := by
  rintro ds R X ⟨_, _, _, rfl, _⟩
  rfl
theorem len_Sheet_flat_goal {K : PySem.W.Frag} : ∀ vs H Q E, sp_Sheet_flat_goal K vs H Q E → vs.length = 2 := fun _ _ _ _ h => spOf_len len_f_Sheet_flat_goal h
theorem mx0 (c : Nat) : (if ((c : Int) - 1) > 0 then ((c : Int) - 1) else 0) = ((c - 1 : Nat) : Int) := by split <;> omega
theorem pure_Sheet_flat_goal {K : PySem.W.Frag} {vs : List V} {H : Hp} {Q : VK} {E : XK} (h : sp_Sheet_flat_goal K vs H Q E) : t_Sheet_flat_goal K E { nx := fun _ H' => Q .non H', rt := Q } (L2.start ["self", "move", "end"] vs) H := by
  refine body (ts := t_Sheet_flat_goal K) 2 1 rfl len_f_Sheet_flat_goal (fun ds R X ⟨p, s, mv, e, C, wf, hk⟩ => ?_) h
  subst e
  show T K _ (t_Sheet_flat_goal K E) [some (.o p (osh K s)), some (.d (.str mv)), none] _ _ _
  unfold t_Sheet_flat_goal
  have hl := wf.l
  have hc := wf.c
  walk_at "xs"
  refine ⟨fun hb => ?_, fun n1 => ?_⟩
  · have hb : mv = mLeft := of_decide_eq_true hb
    walk_at "xs"
    rw [mx0]
    exact ⟨hk _ (by unfold FG; rw [if_pos hb]), rfl, trivial⟩
  have n1 : ¬ mv = mLeft := of_decide_eq_false n1
  walk_at "xs"
  refine ⟨fun hb => ?_, fun n2 => ?_⟩
  · have hb : mv = mRight := of_decide_eq_true hb
    walk_at "xs"
    have e1 : (if ((s.caret : Int) + 1) < (s.now.length : Int) then ((s.caret : Int) + 1) else (s.now.length : Int)) = ((min s.now.length (s.caret + 1) : Nat) : Int) := by split <;> omega
    rw [e1]
    exact ⟨hk _ (by unfold FG; rw [if_neg n1, if_pos hb]), rfl, trivial⟩
  have n2 : ¬ mv = mRight := of_decide_eq_false n2
  walk_at "xs"
  refine ⟨by show 2 ≤ 16000000; decide, ?_⟩
  refine rd_inT (ls := [mWL, mWR]) ⟨_, rfl, fun hb => ?_, fun n3 => ?_⟩
  · have hb : mv ∈ [mWL, mWR] := of_decide_eq_true hb
    walk_at "xs"
    refine ⟨fun hb2 => ?_, fun hb2 => ?_⟩
    · have hb2 : mv = mWL := of_decide_eq_true hb2
      refine w_meth (by decide) ?_
      walk_at "xs"
      refine ⟨_, 0, s, rfl, rfl, ?_⟩
      walk_at "xs"
      exact cl_wl (i := 0) rfl C wf hc rfl fun e he => ⟨hk e (by unfold FG; rw [if_neg n1, if_neg n2, if_pos hb2]; exact he), rfl, trivial⟩
    · have hb2 : ¬ mv = mWL := of_decide_eq_false hb2
      have hb3 : mv = mWR := by simpa [hb2] using hb
      refine w_meth (by decide) ?_
      walk_at "xs"
      refine ⟨_, 0, s, rfl, rfl, ?_⟩
      walk_at "xs"
      exact cl_wr (i := 0) rfl C wf hc rfl fun e he => ⟨hk e (by unfold FG; rw [if_neg n1, if_neg n2, if_neg hb2, if_pos hb3]; exact he), rfl, trivial⟩
  have n3 : ¬ mv ∈ [mWL, mWR] := of_decide_eq_false n3
  have n4 : ¬ mv = mWL := fun z => n3 (by rw [z]; exact List.mem_cons_self)
  have n5 : ¬ mv = mWR := fun z => n3 (by rw [z]; exact List.mem_cons_of_mem _ List.mem_cons_self)
  walk_at "xs"
  refine ⟨by show 2 ≤ 16000000; decide, ?_⟩
  refine rd_inT (ls := [mTop, mBot]) ⟨_, rfl, fun hb => ?_, fun n6 => ?_⟩
  · have hb : mv ∈ [mTop, mBot] := of_decide_eq_true hb
    walk_at "xs"
    refine ⟨fun hb2 => ?_, fun hb2 => ?_⟩
    · have hb2 : mv = mTop := of_decide_eq_true hb2
      walk_at "xs"
      exact ⟨hk 0 (by unfold FG; rw [if_neg n1, if_neg n2, if_neg n4, if_neg n5, if_pos hb2]), rfl, trivial⟩
    · have hb2 : ¬ mv = mTop := of_decide_eq_false hb2
      have hb3 : mv = mBot := by simpa [hb2] using hb
      walk_at "xs"
      exact ⟨hk s.now.length (by unfold FG; rw [if_neg n1, if_neg n2, if_neg n4, if_neg n5, if_neg hb2, if_pos hb3]), rfl, trivial⟩
  have n6 : ¬ mv ∈ [mTop, mBot] := of_decide_eq_false n6
  have n7 : ¬ mv = mTop := fun z => n6 (by rw [z]; exact List.mem_cons_self)
  have n8 : ¬ mv = mBot := fun z => n6 (by rw [z]; exact List.mem_cons_of_mem _ List.mem_cons_self)
  walk_at "xs"
  refine ⟨fun hb => ?_, fun n9 => ?_⟩
  · have hb : mv = mPU := of_decide_eq_true hb
    walk_at "xs"
    rw [mx0]
    have hsp := rfind3_spec s.now [10] (s.caret - 1) (by omega)
    have fg : ∀ e, PU s.now s.caret e → FG s.now s.caret mv e := fun e he => by unfold FG; rw [if_neg n1, if_neg n2, if_neg n4, if_neg n5, if_neg n7, if_neg n8, if_pos hb]; exact he
    rcases hsp with ⟨h1, h2⟩ | ⟨j, h1, h2, h3, h4⟩
    · rw [h1]
      refine ⟨hk 0 (fg 0 ⟨.inl rfl, fun k k1 k2 k3 => ?_⟩), rfl, trivial⟩
      have := h2 (k - 1) (atP1.mpr k3)
      simp only [List.length_singleton] at this
      omega
    · rw [h1]
      simp only [List.length_singleton] at h3 h4
      refine ⟨hk (j + 1) (fg (j + 1) ⟨.inr ⟨by omega, by omega, ?_⟩, fun k k1 k2 k3 => ?_⟩), rfl, trivial⟩
      · rw [Nat.add_sub_cancel]
        exact atP1.mp h2
      · rcases Nat.lt_or_ge j (k - 1) with q | q
        · have := h4 (k - 1) q (atP1.mpr k3)
          omega
        · omega
  have n9 : ¬ mv = mPU := of_decide_eq_false n9
  have fg : ∀ e, PD s.now s.caret e → FG s.now s.caret mv e := fun e he => by unfold FG; rw [if_neg n1, if_neg n2, if_neg n4, if_neg n5, if_neg n7, if_neg n8, if_neg n9]; exact he
  walk_at "xs"
  have hsp := find2_spec s.now [10] (s.caret + 1)
  have e1 : ((s.caret + 1 : Nat) : Int) = (s.caret : Int) + 1 := by omega
  rw [e1] at hsp
  rcases hsp with ⟨h1, h2⟩ | ⟨j, h1, h2, h3, h4⟩
  · rw [h1]
    refine ⟨fun _ => ?_, fun z => nomatch z⟩
    walk_at "xs"
    refine ⟨hk s.now.length (fg _ ⟨.inl rfl, fun k k1 k2 k3 => absurd (atP1.mpr k3) (h2 k (by omega))⟩), rfl, trivial⟩
  · rw [h1]
    refine ⟨fun z => ?_, fun _ => ?_⟩
    · have := of_decide_eq_true z
      omega
    walk_at "xs"
    have h5 := atP1.mp h3
    have h6 := (List.getElem?_eq_some_iff.mp h5).1
    refine ⟨hk j (fg _ ⟨.inr ⟨by omega, h6, h5⟩, fun k k1 k2 k3 => ?_⟩), rfl, trivial⟩
    rcases Nat.lt_or_ge k j with q | q
    · exact absurd (atP1.mpr k3) (h4 k (by omega) q)
    · exact q
end Cr

/-! Dicts written out and asked at once. -/
namespace Cr
open PySem L2
section
variable {K : PySem.W.Frag} {w w1 : Ow} {Hb H Hb1 H1 : Hp} {σ : St} {δ : Dl}
/-- what is neither data nor owned changes -/
theorem SD.poke (s : SD K w Hb H σ δ) {p : Addr} {o : HO} (hw : w p = none) (hb : Hb p = none) : SD K w Hb (upd H p o) σ δ := by
  have nD : ∀ a q, w a = some q → a ≠ p := fun a q z1 z2 => by
    rw [z2, hw] at z1
    cases z1
  have al : ∀ a, H a ≠ none → upd H p o a ≠ none := fun a z => by
    by_cases q : a = p
    · subst q
      rw [upd_same]
      exact fun z => nomatch z
    · rw [upd_ne q]
      exact z
  refine ⟨fun a u z => ?_, s.dis, fun a q z => ⟨al a (s.dom a q z).1, al q (s.dom a q z).2⟩, s.uniq, fun j y z => ?_, s.len⟩
  · rw [upd_ne (ne_of_none z hb)]
    exact s.sub a u z
  · obtain ⟨u, h1, h2⟩ := s.val j y z
    refine ⟨u, h1, ?_⟩
    cases y with
    | d y => exact h2
    | o q A => exact ⟨h2.1, A.loc (fun a ha => upd_ne (nD a q ha)) h2.2⟩
theorem Fm.poke {p : Addr} {o : HO} (f : Fm w Hb H w1 Hb1 H1) (hp : H p = none) : Fm w Hb H w1 Hb1 (upd H1 p o) := by
  refine ⟨f.b, fun a u z1 z2 z3 => ?_, fun a z => ?_, f.rt⟩
  · obtain ⟨q1, q2, q3⟩ := f.fr a u z1 z2 z3
    exact ⟨by rw [upd_ne (ne_of_none z1 hp)]; exact q1, q2, q3⟩
  · by_cases q : a = p
    · subst q
      rw [upd_same]
      exact fun z => nomatch z
    · rw [upd_ne q]
      exact f.al a z
end
abbrev KvR (K : PySem.W.Frag) (Hb : Hp) : List (V × V) → List (List Nat × Da) → Prop := Paired fun q kd => q.1 = .str (S kd.1) ∧ Rp K Hb q.2 kd.2
theorem KvR.mono {K : PySem.W.Frag} {Hb Hb' : Hp} (e : Same Hb Hb') : ∀ {ps : List (V × V)} {kds : List (List Nat × Da)}, KvR K Hb ps kds → KvR K Hb' ps kds
  | _, _, .nil => .nil
  | _, _, .cons ⟨a, b⟩ t => .cons ⟨a, b.mono e⟩ (KvR.mono e t)
def WP (K : PySem.W.Frag) (E : WX) (trs : List (TE × TE)) (δ : Dl) (PP : List (List Nat × Da) → Dl → Prop) (X : XX) : Prop :=
  ∀ (w : Ow) (σ : St) (Hb H : Hp), SD K w Hb H σ δ → ∀ Q : List (V × V) → Hp → Prop,
    (∀ kds δ' ps w' Hb' H', PP kds δ' → SD K w' Hb' H' σ δ' → KvR K Hb' ps kds → Fm w Hb H w' Hb' H' → Q ps H') → XC K E X w σ Hb H → tPairs trs σ H Q
def lookD (kds : List (List Nat × Da)) (l : List Nat) : Option Da := (kds.find? fun q => decide (q.1 = l)).map (·.2)
def kvsOf (ps : List (V × V)) (kds : List (List Nat × Da)) : List (Key × V) := List.zipWith (fun q kd => (.inr (S kd.1), q.2)) ps kds
theorem kvs_eq {K : PySem.W.Frag} {Hb : Hp} : ∀ {ps : List (V × V)} {kds : List (List Nat × Da)}, KvR K Hb ps kds → ps = (kvsOf ps kds).map fun kv => (kV kv.1, kv.2)
  | _, _, .nil => rfl
  | _, _, .cons (a := q) (b := kd) ⟨a, b⟩ t => by
    show _ = (kV (.inr (S kd.1)), q.2) :: (kvsOf _ _).map _
    rw [← kvs_eq t]
    obtain ⟨q1, q2⟩ := q
    have a : q1 = _ := a
    rw [a]
    rfl
theorem kvs_len {K : PySem.W.Frag} {Hb : Hp} : ∀ {ps : List (V × V)} {kds : List (List Nat × Da)}, KvR K Hb ps kds → (kvsOf ps kds).length = kds.length
  | _, _, .nil => rfl
  | _, _, .cons _ t => by
    show (kvsOf _ _).length + 1 = _ + 1
    rw [kvs_len t]
theorem kvs_keys {K : PySem.W.Frag} {Hb : Hp} : ∀ {ps : List (V × V)} {kds : List (List Nat × Da)}, KvR K Hb ps kds → (kvsOf ps kds).map (·.1) = kds.map fun kd => (.inr (S kd.1) : Key)
  | _, _, .nil => rfl
  | _, _, .cons _ t => by
    show _ :: (kvsOf _ _).map (·.1) = _ :: _
    rw [kvs_keys t]
theorem kvs_get {K : PySem.W.Frag} {Hb : Hp} (l : List Nat) : ∀ {ps : List (V × V)} {kds : List (List Nat × Da)}, KvR K Hb ps kds → (lookD kds l = none ∧ valV (kvsOf ps kds) (.inr (S l)) = none) ∨ ∃ v d, lookD kds l = some d ∧ valV (kvsOf ps kds) (.inr (S l)) = some v ∧ Rp K Hb v d
  | _, _, .nil => .inl ⟨rfl, rfl⟩
  | _, _, .cons (a := q) (b := kd) (l₁ := ps) (l₂ := kds) ⟨a, b⟩ t => by
    have ih := kvs_get l t
    have ev : kvsOf (q :: ps) (kd :: kds) = (.inr (S kd.1), q.2) :: kvsOf ps kds := rfl
    rw [ev]
    by_cases h : kd.1 = l
    · refine .inr ⟨q.2, kd.2, ?_, valV_pos (by rw [h]), b⟩
      simp [lookD, List.find?_cons, h]
    · have e1 : lookD (kd :: kds) l = lookD kds l := by simp [lookD, List.find?_cons, h]
      rw [e1, valV_neg (fun z => h (S_inj (Sum.inr.inj z)))]
      exact ih
theorem merge_nodup : ∀ (kvs acc : List (Key × V)), ((acc ++ kvs).map (·.1)).Nodup → mergeK acc kvs = acc ++ kvs
  | [], acc, _ => by simp [mergeK]
  | q :: r, acc, h => by
    have hq : putK acc q.1 q.2 = acc ++ [q] := by
      unfold putK
      rw [if_neg]
      intro z
      rw [List.any_eq_true] at z
      obtain ⟨x, hx, e⟩ := z
      have e := of_decide_eq_true e
      rw [List.map_append, List.map_cons, List.nodup_append] at h
      exact h.2.2 x.1 (List.mem_map_of_mem hx) q.1 List.mem_cons_self e
    show mergeK (putK acc q.1 q.2) r = _
    rw [hq, merge_nodup r (acc ++ [q]) (by simpa using h)]
    simp
section
variable {K : PySem.W.Frag} {E : WX} {δ : Dl} {P : PX} {X : XX} {trs : List (TE × TE)} {tv ty tx : TE} {PP : List (List Nat × Da) → Dl → Prop}
theorem wp_nil (k : PP [] δ) : WP K E [] δ PP X := fun w σ Hb H s Q q _ => q [] δ [] w Hb H k s .nil (Fm.refl _ _ _)
theorem wp_cons {l : List Nat} {z : Str} (e : z = S l) (h : W K E tv δ (fun y δ1 => ∃ d, y = .d d ∧ WP K E trs δ1 (fun kds δ2 => PP ((l, d) :: kds) δ2) X) X) : WP K E ((tK l z, tv) :: trs) δ PP X := fun w σ Hb H s Q q ex => by
  subst e
  refine h w σ Hb H s _ (fun y δ1 v w1 Hb1 H1 ⟨d, ey, k⟩ s1 r1 f1 => ?_) ex
  subst ey
  refine k w1 σ Hb1 H1 s1 _ (fun kds δ2 ps w2 Hb2 H2 k2 s2 r2 f2 => ?_) (ex.on f1)
  exact q _ δ2 _ w2 Hb2 H2 k2 s2 (.cons ⟨rfl, Rp.mono f2.b r1⟩ r2) (f1.trans f2)
/-- {..} as something beside -/
theorem disp_run {w : Ow} {σ : St} {Hb H : Hp} {Q : VK} (s : SD K w Hb H σ δ) (h : WP K E trs δ (fun kds δ1 => kds.length ≤ 15 ∧ (kds.map (·.1)).Nodup ∧ PP kds δ1) X) (e : XC K E X w σ Hb H)
    (q : ∀ kds δ1 p kvs w1 Hb1 H1, PP kds δ1 → SD K w1 Hb1 H1 σ δ1 → Fm w Hb H w1 Hb1 H1 → H1 p = some (.dK kvs) → w1 p = none → Hb1 p = none → (∀ l, (lookD kds l = none ∧ valV kvs (.inr (S l)) = none) ∨ ∃ v d, lookD kds l = some d ∧ valV kvs (.inr (S l)) = some v ∧ Rp K Hb1 v d) → Q (.ref p) H1) : tDisp trs σ H Q := by
  intro p hp
  obtain ⟨s0, f0⟩ := s.side (o := .dK []) hp
  refine h w σ Hb _ s0 _ (fun kds δ1 ps w1 Hb1 H1 ⟨hl, hn, k⟩ s1 r1 f1 => ?_) (e.on f0)
  have g1 := f1.fr p _ upd_same (s.wfree hp) (s.free hp)
  refine ⟨g1.1, kvsOf ps kds, kvs_eq r1, by rw [kvs_len r1]; exact hl, ?_⟩
  have em : mergeK [] (kvsOf ps kds) = kvsOf ps kds := merge_nodup _ [] (by
    rw [List.nil_append, kvs_keys r1]
    have : (kds.map fun kd => (.inr (S kd.1) : Key)) = (kds.map (·.1)).map fun l => (.inr (S l) : Key) := by rw [List.map_map]; rfl
    rw [this]
    exact List.Pairwise.map _ (fun a b h z => h (S_inj (Sum.inr.inj z))) hn)
  rw [em]
  exact q kds δ1 p _ w1 Hb1 _ k (s1.poke g1.2.1 g1.2.2) ((f0.trans f1).poke hp) upd_same g1.2.1 g1.2.2 fun l => kvs_get l r1
theorem w_dispGet (h : WP K E trs δ (fun kds δ1 => kds.length ≤ 15 ∧ (kds.map (·.1)).Nodup ∧ W K E ty δ1 (fun y δ2 => ∃ l d, y = .d (.str l) ∧ lookD kds l = some d ∧ P (.d d) δ2) X) X) : W K E (tDGet (tDisp trs) ty) δ P X := fun w σ Hb H s Q q e => by
  refine disp_run s h e fun kds δ1 p kvs w1 Hb1 H1 k s1 f1 hp hw hb hk => ?_
  refine k w1 σ Hb1 H1 s1 _ (fun y δ2 u w2 Hb2 H2 ⟨l, d, ey, hd, k2⟩ s2 r2 f2 => ?_) (e.on f1)
  subst ey
  cases r2
  have g2 := f2.fr p _ hp hw hb
  rcases hk l with ⟨z, _⟩ | ⟨v, d', h1, h2, h3⟩
  · rw [hd] at z
    cases z
  · rw [hd] at h1
    cases h1
    refine ⟨p, v, rfl, ?_, q _ δ2 _ w2 Hb2 H2 k2 s2 (Rp.mono f2.b h3) (f1.trans f2)⟩
    have := DGet.k (H := H2) (a := p) (k := (.inr (S l) : Key)) g2.1
    rw [h2] at this
    exact this
theorem w_dispGet2 (h : WP K E trs δ (fun kds δ1 => kds.length ≤ 15 ∧ (kds.map (·.1)).Nodup ∧ W K E ty δ1 (fun y δ2 => ∃ l, y = .d (.str l) ∧ W K E tx δ2 (fun z δ3 => ∃ d, z = .d d ∧ P (.d ((lookD kds l).getD d)) δ3) X) X) X) : W K E (tDGet2 (tDisp trs) ty tx) δ P X := fun w σ Hb H s Q q e => by
  refine disp_run s h e fun kds δ1 p kvs w1 Hb1 H1 k s1 f1 hp hw hb hk => ?_
  refine ⟨p, rfl, .inl ⟨kvs, .inl hp⟩, ?_⟩
  refine k w1 σ Hb1 H1 s1 _ (fun y δ2 u w2 Hb2 H2 ⟨l, ey, k2⟩ s2 r2 f2 => ?_) (e.on f1)
  subst ey
  cases r2
  have g2 := f2.fr p _ hp hw hb
  refine k2 w2 σ Hb2 H2 s2 _ (fun z δ3 u w3 Hb3 H3 ⟨d, ez, k3⟩ s3 r3 f3 => ?_) (e.on (f1.trans f2))
  subst ez
  have g3 := f3.fr p _ g2.1 g2.2.1 g2.2.2
  refine ⟨valV kvs (.inr (S l)), DGet.k (H := H3) (a := p) (k := (.inr (S l) : Key)) g3.1, ?_⟩
  rcases hk l with ⟨z1, z2⟩ | ⟨v, d', h1, h2, h3⟩
  · rw [z2]
    rw [z1] at k3
    exact q _ δ3 _ w3 Hb3 H3 k3 s3 r3 ((f1.trans f2).trans f3)
  · rw [h2]
    rw [h1] at k3
    exact q _ δ3 _ w3 Hb3 H3 k3 s3 (Rp.mono (f2.trans f3).b h3) ((f1.trans f2).trans f3)
end
end Cr

/-! Calls of a sheet's methods by the slot that holds it; what moves do to a sheet. -/
namespace Cr
open PySem L2
section
variable {K : PySem.W.Frag} {E : WX} {δ : Dl} {P : PX} {X : XX} {F : FS} {ta : TA} {m : Str} {i : Nat} {p : Addr} {s : Sh}
theorem w_mV {E' : XK} (hi : δ[i]? = some (some (.o p (osh K s)))) (hm : m ∉ shNames) (h : WA K E ta δ (fun xs δ2 => Cl F (.a p :: xs) δ2 P X0) X) : W K E (tMeth (He.ga K "Sheet") m (SpOf K F) [] E' (tVar i) ta) δ P X :=
  w_meth hm (w_own hi ⟨p, i, s, rfl, hi, h⟩)
theorem w_mX {E' : XK} (hE : ∀ c d σ H, E c d σ H → E' c d H) (hi : δ[i]? = some (some (.o p (osh K s)))) (hm : m ∉ shNames) (h : WA K E ta δ (fun xs δ2 => Cl F (.a p :: xs) δ2 P X) X) : W K E (tMeth (He.ga K "Sheet") m (SpOf K F) [] E' (tVar i) ta) δ P X :=
  w_methX hE hm (w_own hi ⟨p, i, s, rfl, hi, h⟩)
theorem w_mS (hi : δ[i]? = some (some (.o p (osh K s)))) (hm : m ∉ shNames) (h : WA K E ta δ (fun xs δ2 => Cl F (.a p :: xs) δ2 P X) X) : W K E (tMethT (He.ga K "Sheet") m (SpOf K F) (WE E) (tVar i) ta) δ P X :=
  w_methS hm (w_own hi ⟨p, i, s, rfl, hi, h⟩)
variable {E' : XK}
theorem w_m0 {g : Sh → (Da → Prop) → Prop} (hi : δ[i]? = some (some (.o p (osh K s)))) (hm : m ∉ shNames) (R : RwF K) (C : ShC K) (wf : Wf s) (hs : δ.set i (some (.o p (osh K s))) = δ) (k : g s (fun d => P (.d d) δ)) : W K E (tMeth (He.ga K "Sheet") m (SpOf K (rdS K g)) [] E' (tVar i) tNil) δ P X :=
  w_mV hi hm (wa_nil (cl_rdS hi R C wf hs k))
theorem w_mText (hi : δ[i]? = some (some (.o p (osh K s)))) (R : RwF K) (C : ShC K) (wf : Wf s) (hs : δ.set i (some (.o p (osh K s))) = δ) (k : P (.d (.str s.now)) δ) : W K E (tMeth (He.ga K "Sheet") "text" (sp_Sheet_text K) [] E' (tVar i) tNil) δ P X := w_m0 hi (by decide) R C wf hs k
theorem w_mRowsT (hi : δ[i]? = some (some (.o p (osh K s)))) (R : RwF K) (C : ShC K) (wf : Wt s) (hs : δ.set i (some (.o p (osh K s))) = δ) (k : P (.d (.lst ((rowsS s).map dR))) δ) : W K E (tMeth (He.ga K "Sheet") "rows" (sp_Sheet_rows K) [] E' (tVar i) tNil) δ P X := w_mV hi (by decide) (wa_nil (cl_rdT hi R C wf hs k))
theorem w_mRows (hi : δ[i]? = some (some (.o p (osh K s)))) (R : RwF K) (C : ShC K) (wf : Wf s) (hs : δ.set i (some (.o p (osh K s))) = δ) (k : P (.d (.lst ((rowsS s).map dR))) δ) : W K E (tMeth (He.ga K "Sheet") "rows" (sp_Sheet_rows K) [] E' (tVar i) tNil) δ P X := w_mRowsT hi R C wf.wt hs k
theorem w_mAt (hi : δ[i]? = some (some (.o p (osh K s)))) (R : RwF K) (C : ShC K) (wf : Wf s) (hs : δ.set i (some (.o p (osh K s))) = δ) (k : P (.d (atD s)) δ) : W K E (tMeth (He.ga K "Sheet") "at" (sp_Sheet_at K) [] E' (tVar i) tNil) δ P X := w_m0 hi (by decide) R C wf hs k
theorem w_mChosen (hi : δ[i]? = some (some (.o p (osh K s)))) (R : RwF K) (C : ShC K) (wf : Wf s) (hs : δ.set i (some (.o p (osh K s))) = δ) (k : P (.d (chD s)) δ) : W K E (tMeth (He.ga K "Sheet") "chosen" (sp_Sheet_chosen K) [] E' (tVar i) tNil) δ P X := w_m0 hi (by decide) R C wf hs k
def chT (s : Sh) : List Nat := (s.now.drop (min s.caret s.anchor)).take (max s.caret s.anchor - min s.caret s.anchor)
theorem w_mChosenT (hi : δ[i]? = some (some (.o p (osh K s)))) (R : RwF K) (C : ShC K) (wf : Wf s) (hs : δ.set i (some (.o p (osh K s))) = δ) (k : P (.d (.str (chT s))) δ) : W K E (tMeth (He.ga K "Sheet") "chosen_text" (sp_Sheet_chosen_text K) [] E' (tVar i) tNil) δ P X := w_m0 hi (by decide) R C wf hs k
theorem w_mView (hi : δ[i]? = some (some (.o p (osh K s)))) (R : RwF K) (C : ShC K) (wf : Wf s) (hs : δ.set i (some (.o p (osh K s))) = δ) (k : P (.d (viewD s)) δ) : W K E (tMeth (He.ga K "Sheet") "view" (sp_Sheet_view K) [] E' (tVar i) tNil) δ P X := w_m0 hi (by decide) R C wf hs k
theorem w_mScroll (hi : δ[i]? = some (some (.o p (osh K s)))) (R : RwF K) (C : ShC K) (wf : Wf s) (k : P (.d .non) (δ.set i (some (.o p (osh K (scrollS s)))))) : W K E (tMeth (He.ga K "Sheet") "scroll" (sp_Sheet_scroll K) [] E' (tVar i) tNil) δ P X := w_mV hi (by decide) (wa_nil (cl_scroll hi R C wf k))
end
/-! ### what moves do -/
open Classical in
noncomputable def nearF (t : List Nat) (s e : Nat) (c : Int) : Nat := if h : ∃ f, Near t s e c f then h.choose else s
theorem nearF_eq {t : List Nat} {s e : Nat} {c : Int} {f : Nat} (h : Near t s e c f) : nearF t s e c = f := by
  unfold nearF
  have hx : ∃ f, Near t s e c f := ⟨f, h⟩
  rw [dif_pos hx]
  exact hx.choose_spec.uniq h
theorem near_ex (t : List Nat) (s : Nat) (c : Int) {e : Nat} (h : s ≤ e) : ∃ f, Near t s e c f := by
  obtain ⟨n, rfl⟩ : ∃ n, e = s + n := ⟨e - s, by omega⟩
  clear h
  induction n with
  | zero => exact ⟨s, Nat.le_refl _, Nat.le_refl _, fun o h1 h2 => by rw [show o = s by omega]; exact Int.le_refl _, fun o h1 h2 => by omega⟩
  | succ n ih =>
    obtain ⟨f, h1, h2, h3, h4⟩ := ih
    by_cases q : dis t s c (s + (n + 1)) < dis t s c f
    · refine ⟨s + (n + 1), by omega, Nat.le_refl _, fun o o1 o2 => ?_, fun o o1 o2 => ?_⟩
      · rcases Nat.lt_or_ge o (s + (n + 1)) with z | z
        · have := h3 o o1 (by omega)
          omega
        · rw [show o = s + (n + 1) by omega]
          exact Int.le_refl _
      · have := h3 o o1 (by omega)
        omega
    · refine ⟨f, h1, by omega, fun o o1 o2 => ?_, h4⟩
      rcases Nat.lt_or_ge o (s + (n + 1)) with z | z
      · exact h3 o o1 (by omega)
      · rw [show o = s + (n + 1) by omega]
        omega
theorem nearF_near (t : List Nat) (s : Nat) (c : Int) {e : Nat} (h : s ≤ e) : Near t s e c (nearF t s e c) := by
  obtain ⟨f, hf⟩ := near_ex t s c h
  rw [nearF_eq hf]
  exact hf
open Classical in
noncomputable def flatF (t : List Nat) (c : Nat) (mv : List Nat) : Nat := if h : ∃ e, FG t c mv e then h.choose else 0
theorem flatF_eq {t : List Nat} {c : Nat} {mv : List Nat} {e : Nat} (hc : c ≤ t.length) (h : FG t c mv e) : flatF t c mv = e := by
  unfold flatF
  have hx : ∃ f, FG t c mv f := ⟨e, h⟩
  rw [dif_pos hx]
  exact FG.uniq hc hx.choose_spec h
/-! the goals are there -/
theorem wr_ex (t : List Nat) (o : Nat) (ho : o ≤ t.length) : ∃ e, WR t o e := by
  have stepB : ∀ n b, n = t.length - b → b ≤ t.length → ∃ c, b ≤ c ∧ c ≤ t.length ∧ (∀ j, b ≤ j → j < c → letAt t (j : Int) = false) ∧ (c = t.length ∨ letAt t (c : Int) = true) := fun n => by
    induction n with
    | zero => exact fun b h1 h2 => ⟨b, Nat.le_refl _, h2, (fun j j1 j2 => by omega), .inl (by omega)⟩
    | succ n ih =>
      intro b h1 h2
      cases hb : letAt t (b : Int) with
      | true => exact ⟨b, Nat.le_refl _, h2, (fun j j1 j2 => by omega), .inr hb⟩
      | false =>
        obtain ⟨c, c1, c2, c3, c4⟩ := ih (b + 1) (by omega) (by omega)
        refine ⟨c, by omega, c2, fun j j1 j2 => ?_, c4⟩
        rcases Nat.lt_or_ge b j with q | q
        · exact c3 j (by omega) j2
        · rw [show j = b by omega]
          exact hb
  have stepE : ∀ n b, n = t.length - b → b ≤ t.length → ∃ c, b ≤ c ∧ c ≤ t.length ∧ (∀ j, b ≤ j → j < c → letAt t (j : Int) = true) ∧ letAt t (c : Int) = false := fun n => by
    induction n with
    | zero =>
      intro b h1 h2
      refine ⟨b, Nat.le_refl _, h2, (fun j j1 j2 => by omega), ?_⟩
      cases hb : letAt t (b : Int) with
      | false => rfl
      | true => have := letAt_lt hb; omega
    | succ n ih =>
      intro b h1 h2
      cases hb : letAt t (b : Int) with
      | false => exact ⟨b, Nat.le_refl _, h2, (fun j j1 j2 => by omega), hb⟩
      | true =>
        obtain ⟨c, c1, c2, c3, c4⟩ := ih (b + 1) (by omega) (by omega)
        refine ⟨c, by omega, c2, fun j j1 j2 => ?_, c4⟩
        rcases Nat.lt_or_ge b j with q | q
        · exact c3 j (by omega) j2
        · rw [show j = b by omega]
          exact hb
  obtain ⟨b, b1, b2, b3, b4⟩ := stepB _ o rfl ho
  obtain ⟨e, e1, e2, e3, e4⟩ := stepE _ b rfl b2
  exact ⟨e, b, b1, e1, e2, b3, e3, b4, e4⟩
theorem wl_ex (t : List Nat) : ∀ o, ∃ e, WL t o e := by
  have stepE : ∀ b : Nat, ∃ c, c ≤ b ∧ (∀ j, c ≤ j → j < b → letAt t (j : Int) = true) ∧ letAt t ((c : Int) - 1) = false := fun b => by
    induction b with
    | zero => exact ⟨0, Nat.le_refl _, (fun j j1 j2 => by omega), by unfold letAt; rw [decide_eq_false (by decide), Bool.false_and]⟩
    | succ n ih =>
      have e1 : (((n + 1 : Nat) : Int) - 1) = (n : Int) := by omega
      cases hb : letAt t (n : Int) with
      | false => exact ⟨n + 1, Nat.le_refl _, (fun j j1 j2 => by omega), by rw [e1]; exact hb⟩
      | true =>
        obtain ⟨c, c1, c2, c3⟩ := ih
        refine ⟨c, by omega, fun j j1 j2 => ?_, c3⟩
        rcases Nat.lt_or_ge j n with q | q
        · exact c2 j j1 q
        · rw [show j = n by omega]
          exact hb
  have stepB : ∀ b : Nat, ∃ c, c ≤ b ∧ (∀ j, c ≤ j → j < b → letAt t (j : Int) = false) ∧ (c = 0 ∨ letAt t ((c : Int) - 1) = true) := fun b => by
    induction b with
    | zero => exact ⟨0, Nat.le_refl _, (fun j j1 j2 => by omega), .inl rfl⟩
    | succ n ih =>
      have e1 : (((n + 1 : Nat) : Int) - 1) = (n : Int) := by omega
      cases hb : letAt t (n : Int) with
      | true => exact ⟨n + 1, Nat.le_refl _, (fun j j1 j2 => by omega), .inr (by rw [e1]; exact hb)⟩
      | false =>
        obtain ⟨c, c1, c2, c3⟩ := ih
        refine ⟨c, by omega, fun j j1 j2 => ?_, c3⟩
        rcases Nat.lt_or_ge j n with q | q
        · exact c2 j j1 q
        · rw [show j = n by omega]
          exact hb
  intro o
  obtain ⟨b, b1, b2, b3⟩ := stepB o
  obtain ⟨e, e1, e2, e3⟩ := stepE b
  exact ⟨e, b, e1, b1, b2, e2, b3, e3⟩
theorem pu_ex (t : List Nat) : ∀ c, ∃ e, PU t c e
  | 0 => ⟨0, .inl rfl, fun k k1 k2 _ => by omega⟩
  | 1 => ⟨0, .inl rfl, fun k k1 k2 _ => by omega⟩
  | c + 2 => by
    by_cases h : t[c]? = some 10
    · refine ⟨c + 1, .inr ⟨by omega, by omega, by rw [Nat.add_sub_cancel]; exact h⟩, fun k k1 k2 _ => by omega⟩
    · obtain ⟨e, h1, h2⟩ := pu_ex t (c + 1)
      refine ⟨e, h1.imp id (fun ⟨a, b, d⟩ => ⟨a, by omega, d⟩), fun k k1 k2 k3 => ?_⟩
      rcases Nat.lt_or_ge k (c + 1) with q | q
      · exact h2 k k1 q k3
      · have e1 : k - 1 = c := by omega
        rw [e1] at k3
        exact absurd k3 h
theorem pd_ex (t : List Nat) (c : Nat) : ∃ e, PD t c e := by
  have stp : ∀ n c, n = t.length - c → ∃ e, PD t c e := fun n => by
    induction n with
    | zero => exact fun c h => ⟨t.length, .inl rfl, fun k k1 k2 _ => by omega⟩
    | succ n ih =>
      intro c hc
      by_cases h : c + 1 < t.length ∧ t[c + 1]? = some 10
      · exact ⟨c + 1, .inr ⟨by omega, h.1, h.2⟩, fun k k1 k2 _ => by omega⟩
      · obtain ⟨e, h1, h2⟩ := ih (c + 1) (by omega)
        refine ⟨e, h1.imp id (fun ⟨a, b, d⟩ => ⟨by omega, b, d⟩), fun k k1 k2 k3 => ?_⟩
        rcases Nat.lt_or_ge (c + 1) k with q | q
        · exact h2 k q k2 k3
        · have e1 : k = c + 1 := by omega
          rw [e1] at k3 k2
          exact absurd ⟨k2, k3⟩ h
  exact stp _ c rfl
theorem fg_ex (t : List Nat) (c : Nat) (mv : List Nat) (hc : c ≤ t.length) : ∃ e, FG t c mv e := by
  unfold FG
  split
  · exact ⟨_, rfl⟩
  split
  · exact ⟨_, rfl⟩
  split
  · exact wl_ex t c
  split
  · exact wr_ex t c hc
  split
  · exact ⟨_, rfl⟩
  split
  · exact ⟨_, rfl⟩
  split
  · exact pu_ex t c
  · exact pd_ex t c
theorem flatF_fg {t : List Nat} {c : Nat} (hc : c ≤ t.length) (mv : List Nat) : FG t c mv (flatF t c mv) := by
  obtain ⟨e, h⟩ := fg_ex t c mv hc
  rw [flatF_eq hc h]
  exact h
theorem fg_le {t : List Nat} {c : Nat} {mv : List Nat} {e : Nat} (hc : c ≤ t.length) (h : FG t c mv e) : e ≤ t.length := by
  unfold FG at h
  split at h
  · omega
  split at h
  · omega
  split at h
  · obtain ⟨b, h1, h2, _⟩ := h.ex
    omega
  split at h
  · obtain ⟨b, _, _, h, _⟩ := h.ex
    exact h
  split at h
  · omega
  split at h
  · omega
  split at h
  · rcases h.at_ with q | ⟨_, q, _⟩ <;> omega
  · rcases h.at_ with q | ⟨_, q, _⟩ <;> omega
/-! ### states -/
abbrev rowR (L : List R3) (k : Nat) : R3 := L.getD k (0, 0, false)
def curS (s : Sh) : Nat := rowAt (rowsS s) s.caret s.back
def wishS (s : Sh) : Nat := s.wish.getD (colOf s.now (rowR (rowsS s) (curS s)).1 s.caret)
def goalN (n : Nat) (m : Int) (len : Nat) : Nat := (min (max 0 ((n : Int) + m)) ((len : Int) - 1)).toNat
noncomputable def vertP (s : Sh) (m : Int) : Nat × Bool :=
  if (curS s : Int) + m < 0 ∧ curS s = 0 then (0, false)
  else if ((rowsS s).length : Int) ≤ (curS s : Int) + m ∧ curS s = (rowsS s).length - 1 then (s.now.length, false)
  else (nearF s.now (rowR (rowsS s) (goalN (curS s) m (rowsS s).length)).1 (rowR (rowsS s) (goalN (curS s) m (rowsS s).length)).2.1 (wishS s),
    softE (rowsS s) (goalN (curS s) m (rowsS s).length) (nearF s.now (rowR (rowsS s) (goalN (curS s) m (rowsS s).length)).1 (rowR (rowsS s) (goalN (curS s) m (rowsS s).length)).2.1 (wishS s)))
noncomputable def vertS (s : Sh) (m : Int) (ch : Bool) : Sh := { putS s (vertP s m).1 (vertP s m).2 ch with wish := some (wishS s) }
def mUp : List Nat := [117, 112]
def mDown : List Nat := [100, 111, 119, 110]
def mPgU : List Nat := [112, 97, 103, 101, 117, 112]
def mPgD : List Nat := [112, 97, 103, 101, 100, 111, 119, 110]
def mHome : List Nat := [104, 111, 109, 101]
def mEnd : List Nat := [101, 110, 100]
def mPD : List Nat := [112, 97, 114, 97, 100, 111, 119, 110]
def movesL : List (List Nat) := [mLeft, mRight, mWL, mWR, mUp, mDown, mPgU, mPgD, mHome, mEnd, mTop, mBot, mPU, mPD]
def vertL : List (List Nat) := [mUp, mDown, mPgU, mPgD]
structure CoF (K : PySem.W.Frag) : Prop where
  mv : ∀ H, Rp K H (.ref (He.ga K "MOVES")) (.tup (movesL.map Da.str))
  vt : ∀ H, Rp K H (.ref (He.ga K "VERTICAL")) (.tup (vertL.map Da.str))
def vertM (h : Nat) (mv : List Nat) : Option Int := if mv = mUp then some (-1) else if mv = mDown then some 1 else if mv = mPgU then some (0 - (h : Int)) else if mv = mPgD then some (h : Int) else none
noncomputable def flatS (s : Sh) (mv : List Nat) (ch : Bool) : Sh :=
  if mv = mHome then putS { s with wish := none } (rowR (rowsS s) (curS s)).1 false ch
  else if mv = mEnd then putS { s with wish := none } (rowR (rowsS s) (curS s)).2.1 true ch
  else if (mv = mLeft ∨ mv = mRight) ∧ min s.caret s.anchor < max s.caret s.anchor ∧ ch = false then putS { s with wish := none } (if mv = mLeft then min s.caret s.anchor else max s.caret s.anchor) false false
  else putS { s with wish := none } (flatF s.now s.caret mv) false ch
noncomputable def moveS (s : Sh) (mv : List Nat) (ch : Bool) : Sh := match vertM s.height mv with
  | some m => vertS s m ch
  | none => flatS s mv ch
theorem vertM_none {h : Nat} {mv : List Nat} : vertM h mv = none ↔ mv ∉ vertL := by
  unfold vertM vertL
  constructor
  · intro z
    split at z
    · exact nomatch z
    split at z
    · exact nomatch z
    split at z
    · exact nomatch z
    split at z
    · exact nomatch z
    simp_all
  · intro z
    simp only [List.mem_cons, List.not_mem_nil, or_false, not_or] at z
    rw [if_neg z.1, if_neg z.2.1, if_neg z.2.2.1, if_neg z.2.2.2]
theorem curS_lt {s : Sh} (wf : Wf s) : curS s < (rowsS s).length := rowAt_lt wf.ch.ne _ _
theorem rowR_get {L : List R3} {k : Nat} (h : k < L.length) : L[k]? = some (rowR L k) := by
  unfold rowR
  rw [List.getD_eq_getElem?_getD, List.getElem?_eq_getElem h]
  rfl
theorem rowR_mem {L : List R3} {k : Nat} (h : k < L.length) : rowR L k ∈ L := List.mem_of_getElem? (rowR_get h)
theorem goalN_lt {n len : Nat} {m : Int} (h : 0 < len) : goalN n m len < len := by
  unfold goalN
  omega
/-- where the caret goes is in the text -/
theorem vertP_le {s : Sh} (wf : Wf s) (m : Int) : (vertP s m).1 ≤ s.now.length := by
  unfold vertP
  split
  · exact Nat.zero_le _
  split
  · exact Nat.le_refl _
  have hpos := List.length_pos_iff.mpr wf.ch.ne
  have hg := goalN_lt (n := curS s) (m := m) hpos
  have hm := wf.ch.mem _ (rowR_mem hg)
  have := (nearF_near s.now (rowR (rowsS s) (goalN (curS s) m (rowsS s).length)).1 (wishS s) hm.2.1).hi
  exact Nat.le_trans this hm.2.2
theorem Wf.wish {s : Sh} (h : Wf s) (w : Option Nat) : Wf { s with wish := w } := ⟨h.t, h.w1, h.w2, h.h1, h.h2, h.c, h.a⟩
theorem Wf.vert {s : Sh} (h : Wf s) (m : Int) (ch : Bool) : Wf (vertS s m ch) := (h.put (vertP_le h m) _ _).wish _
theorem Wf.flat {s : Sh} (h : Wf s) (mv : List Nat) (ch : Bool) : Wf (flatS s mv ch) := by
  have hm := h.ch.mem _ (rowR_mem (curS_lt h))
  have h1 := h.wish none
  have hc := h.c
  have ha := h.a
  unfold flatS
  split
  · exact h1.put (by show _ ≤ s.now.length; omega) _ _
  split
  · exact h1.put (by show _ ≤ s.now.length; omega) _ _
  split
  · exact h1.put (by show _ ≤ s.now.length; split <;> omega) _ _
  · exact h1.put (fg_le hc (flatF_fg hc mv)) _ _
theorem Wf.move {s : Sh} (h : Wf s) (mv : List Nat) (ch : Bool) : Wf (moveS s mv ch) := by
  unfold moveS
  split
  · exact h.vert _ _
  · exact h.flat _ _
end Cr

namespace Cr
open PySem L2
local macro_rules | `(tactic| walk_at "x") => `(tactic| first | with_reducible refine t_seq ?_ | with_reducible refine t_ret ?_ | with_reducible refine t_set ?_ | with_reducible refine t_drop ?_ | with_reducible refine t_if ?_ | with_reducible refine t_next ?_ | with_reducible refine t_raise ?_ | with_reducible refine t_asg ?_ | with_reducible refine t_retN ?_ | with_reducible refine w_op ?_ | ((with_reducible refine' w_var ?h ?_); (case h => rfl)) | ((with_reducible refine' w_own ?h ?_); (case h => rfl)) | with_reducible refine w_int ?_ | ((with_reducible refine' w_k ?h ?_); (case h => decide +kernel)) | with_reducible refine w_bl ?_ | with_reducible refine w_non ?_ | with_reducible refine w_if ?_ | with_reducible refine w_andV ?_ | with_reducible refine w_orV ?_ | with_reducible refine w_notV ?_ | with_reducible refine w_tup ?_ | with_reducible refine w_lst ?_ | with_reducible refine w_cb ?_ | with_reducible refine w_chain ?_ | with_reducible refine w_slS ?_ | with_reducible refine w_slL ?_ | with_reducible refine w_find1 ?_ | with_reducible refine w_find2 ?_ | with_reducible refine w_rfind1 ?_ | with_reducible refine w_rfind3 ?_ | with_reducible refine w_neg ?_ | with_reducible refine w_ref ?_ | with_reducible refine w_ty ?_ | with_reducible refine wt_test ?_ | with_reducible refine wt_B ?_ | with_reducible refine wt_and ?_ | with_reducible refine wt_or ?_ | with_reducible refine wt_not ?_ | with_reducible refine wt_yes ?_ | with_reducible refine wd_nil ?_ | with_reducible refine wd_cons ?_ | with_reducible refine wa_nil ?_ | with_reducible refine wa_cons ?_ | with_reducible refine wo_none ?_ | with_reducible refine wo_some ?_ | with_reducible refine rd_I0i ?_ | with_reducible refine rd_I0b ?_ | with_reducible refine rd_eqI ?_ | with_reducible refine rd_neI ?_ | with_reducible refine rd_eqS ?_ | with_reducible refine rd_neS ?_ | with_reducible refine rd_isN ?_ | with_reducible refine rd_notN ?_ | with_reducible refine rd_inSign ?_ | with_reducible refine cd_lenL ?_ | ((with_reducible refine' cd_lenS ?h ?_); (case h => first | assumption | omega)) | with_reducible refine cd_lenT ?_ | with_reducible refine cd_lenR ?_ | with_reducible refine cd_abs ?_ | with_reducible refine cd_max2 ?_ | with_reducible refine cd_min2 ?_ | with_reducible refine cd_intB ?_ | with_reducible refine cd_ord ?_ | with_reducible refine g_name ?_ | with_reducible refine ⟨_, rfl, ?_⟩ | with_reducible refine rd_leS ?_ | ((with_reducible refine' w_now ?C ?h ?_); (case C => assumption); (case h => rfl)) | ((with_reducible refine' w_width ?C ?h ?_); (case C => assumption); (case h => rfl)) | ((with_reducible refine' w_height ?C ?h ?_); (case C => assumption); (case h => rfl)) | ((with_reducible refine' w_caret ?C ?h ?_); (case C => assumption); (case h => rfl)) | ((with_reducible refine' w_is_back ?C ?h ?_); (case C => assumption); (case h => rfl)) | ((with_reducible refine' w_anchor ?C ?h ?_); (case C => assumption); (case h => rfl)) | ((with_reducible refine' w_wish ?C ?h ?_); (case C => assumption); (case h => rfl)) | ((with_reducible refine' w_first ?C ?h ?_); (case C => assumption); (case h => rfl)) | ((with_reducible refine' w_mText ?h ?R ?C ?wf ?e ?_); (case h => rfl); (case R => assumption); (case C => assumption); (case wf => assumption); (case e => rfl)) | ((with_reducible refine' w_mRows ?h ?R ?C ?wf ?e ?_); (case h => rfl); (case R => assumption); (case C => assumption); (case wf => assumption); (case e => rfl)) | ((with_reducible refine' w_mAt ?h ?R ?C ?wf ?e ?_); (case h => rfl); (case R => assumption); (case C => assumption); (case wf => assumption); (case e => rfl)) | ((with_reducible refine' w_mChosen ?h ?R ?C ?wf ?e ?_); (case h => rfl); (case R => assumption); (case C => assumption); (case wf => assumption); (case e => rfl)) | ((with_reducible refine' w_mChosenT ?h ?R ?C ?wf ?e ?_); (case h => rfl); (case R => assumption); (case C => assumption); (case wf => assumption); (case e => rfl)) | ((with_reducible refine' w_mView ?h ?R ?C ?wf ?e ?_); (case h => rfl); (case R => assumption); (case C => assumption); (case wf => assumption); (case e => rfl)))
local macro_rules | `(tactic| walk_at "xs") => `(tactic| repeat (first | with_reducible refine t_seq ?_ | with_reducible refine t_ret ?_ | with_reducible refine t_set ?_ | with_reducible refine t_drop ?_ | with_reducible refine t_if ?_ | with_reducible refine t_next ?_ | with_reducible refine t_raise ?_ | with_reducible refine t_asg ?_ | with_reducible refine t_retN ?_ | with_reducible refine w_op ?_ | ((with_reducible refine' w_var ?h ?_); (case h => rfl)) | ((with_reducible refine' w_own ?h ?_); (case h => rfl)) | with_reducible refine w_int ?_ | ((with_reducible refine' w_k ?h ?_); (case h => decide +kernel)) | with_reducible refine w_bl ?_ | with_reducible refine w_non ?_ | with_reducible refine w_if ?_ | with_reducible refine w_andV ?_ | with_reducible refine w_orV ?_ | with_reducible refine w_notV ?_ | with_reducible refine w_tup ?_ | with_reducible refine w_lst ?_ | with_reducible refine w_cb ?_ | with_reducible refine w_chain ?_ | with_reducible refine w_slS ?_ | with_reducible refine w_slL ?_ | with_reducible refine w_find1 ?_ | with_reducible refine w_find2 ?_ | with_reducible refine w_rfind1 ?_ | with_reducible refine w_rfind3 ?_ | with_reducible refine w_neg ?_ | with_reducible refine w_ref ?_ | with_reducible refine w_ty ?_ | with_reducible refine wt_test ?_ | with_reducible refine wt_B ?_ | with_reducible refine wt_and ?_ | with_reducible refine wt_or ?_ | with_reducible refine wt_not ?_ | with_reducible refine wt_yes ?_ | with_reducible refine wd_nil ?_ | with_reducible refine wd_cons ?_ | with_reducible refine wa_nil ?_ | with_reducible refine wa_cons ?_ | with_reducible refine wo_none ?_ | with_reducible refine wo_some ?_ | with_reducible refine rd_I0i ?_ | with_reducible refine rd_I0b ?_ | with_reducible refine rd_eqI ?_ | with_reducible refine rd_neI ?_ | with_reducible refine rd_eqS ?_ | with_reducible refine rd_neS ?_ | with_reducible refine rd_isN ?_ | with_reducible refine rd_notN ?_ | with_reducible refine rd_inSign ?_ | with_reducible refine cd_lenL ?_ | ((with_reducible refine' cd_lenS ?h ?_); (case h => first | assumption | omega)) | with_reducible refine cd_lenT ?_ | with_reducible refine cd_lenR ?_ | with_reducible refine cd_abs ?_ | with_reducible refine cd_max2 ?_ | with_reducible refine cd_min2 ?_ | with_reducible refine cd_intB ?_ | with_reducible refine cd_ord ?_ | with_reducible refine g_name ?_ | with_reducible refine ⟨_, rfl, ?_⟩ | with_reducible refine rd_leS ?_ | ((with_reducible refine' w_now ?C ?h ?_); (case C => assumption); (case h => rfl)) | ((with_reducible refine' w_width ?C ?h ?_); (case C => assumption); (case h => rfl)) | ((with_reducible refine' w_height ?C ?h ?_); (case C => assumption); (case h => rfl)) | ((with_reducible refine' w_caret ?C ?h ?_); (case C => assumption); (case h => rfl)) | ((with_reducible refine' w_is_back ?C ?h ?_); (case C => assumption); (case h => rfl)) | ((with_reducible refine' w_anchor ?C ?h ?_); (case C => assumption); (case h => rfl)) | ((with_reducible refine' w_wish ?C ?h ?_); (case C => assumption); (case h => rfl)) | ((with_reducible refine' w_first ?C ?h ?_); (case C => assumption); (case h => rfl)) | ((with_reducible refine' w_mText ?h ?R ?C ?wf ?e ?_); (case h => rfl); (case R => assumption); (case C => assumption); (case wf => assumption); (case e => rfl)) | ((with_reducible refine' w_mRows ?h ?R ?C ?wf ?e ?_); (case h => rfl); (case R => assumption); (case C => assumption); (case wf => assumption); (case e => rfl)) | ((with_reducible refine' w_mAt ?h ?R ?C ?wf ?e ?_); (case h => rfl); (case R => assumption); (case C => assumption); (case wf => assumption); (case e => rfl)) | ((with_reducible refine' w_mChosen ?h ?R ?C ?wf ?e ?_); (case h => rfl); (case R => assumption); (case C => assumption); (case wf => assumption); (case e => rfl)) | ((with_reducible refine' w_mChosenT ?h ?R ?C ?wf ?e ?_); (case h => rfl); (case R => assumption); (case C => assumption); (case wf => assumption); (case e => rfl)) | ((with_reducible refine' w_mView ?h ?R ?C ?wf ?e ?_); (case h => rfl); (case R => assumption); (case C => assumption); (case wf => assumption); (case e => rfl)) | simp only [List.set_cons_succ, List.set_cons_zero]))
def f_Sheet_move_rows (K : PySem.W.Frag) : FS := fun ys R _ => ∃ (p : Addr) (s : Sh) (m : Int) (ch : Bool), ys = [.o p (osh K s), .d (.int m), .d (.bl ch)] ∧ RwF K ∧ ShC K ∧ Wf s ∧ R .non [some (.o p (osh K (vertS s m ch))), none, none]
abbrev sp_Sheet_move_rows (K : PySem.W.Frag) : Sp := SpOf K (f_Sheet_move_rows K)
def t_Sheet_move_rows (K : PySem.W.Frag) (E : XK) : TS := (tSeq (tAsg (tMeth (He.ga K "Sheet") "rows" (sp_Sheet_rows K) [] L2.E0 (tVar 0) tNil) (gName 3))
  (tSeq (tAsg (tCall (sp_row_at K) [] L2.E0 (tCons (tVar 3) (tCons (tFld K (tVar 0) "caret") (tCons (tFld K (tVar 0) "is_back") tNil)))) (gName 4))
  (tSeq (tAsg (tIf (tTest (tOp rIsNone (tFld K (tVar 0) "wish") (tC .non))) (tCall (sp_column_of K) [] L2.E0 (tCons (tFld K (tVar 0) "now") (tCons (tOp (rIxL K) (tVar 3) (tVar 4)) (tCons (tFld K (tVar 0) "caret") tNil)))) (tFld K (tVar 0) "wish")) (gName 5))
  (tSeq (tAsg (tOp rPlus (tVar 4) (tVar 1)) (gName 6))
  (tSeq (tIfS (tAnd (tTest (tOp rLt' (tVar 6) (tC (.int 0)))) (tTest (tOp rEq (tVar 4) (tC (.int 0))))) (tDrop (tMeth (He.ga K "Sheet") "put" (sp_Sheet_put K) [] L2.E0 (tVar 0) (tCons (tC (.int 0)) (tCons (tC (.bl false)) (tCons (tVar 2) tNil))))) (tIfS (tAnd (tTest (tOp rGe' (tVar 6) (tCB (rLen K) (tCons (tVar 3) tNil)))) (tTest (tOp rEq (tVar 4) (tOp rMinus (tCB (rLen K) (tCons (tVar 3) tNil)) (tC (.int 1)))))) (tDrop (tMeth (He.ga K "Sheet") "put" (sp_Sheet_put K) [] L2.E0 (tVar 0) (tCons (tCB (rLen K) (tCons (tFld K (tVar 0) "now") tNil)) (tCons (tC (.bl false)) (tCons (tVar 2) tNil))))) (tSeq (tAsg (tCB rMx2 (tCons (tC (.int 0)) (tCons (tCB rMn2 (tCons (tVar 6) (tCons (tOp rMinus (tCB (rLen K) (tCons (tVar 3) tNil)) (tC (.int 1))) tNil))) tNil))) (gName 6))
  (tSeq (tAsg (tCall (sp_offset_at K) [] L2.E0 (tCons (tFld K (tVar 0) "now") (tCons (tOp (rIxL K) (tVar 3) (tVar 6)) (tCons (tVar 5) tNil)))) (gName 7))
  (tDrop (tMeth (He.ga K "Sheet") "put" (sp_Sheet_put K) [] L2.E0 (tVar 0) (tCons (tVar 7) (tCons (tCall (sp_is_soft_end K) [] L2.E0 (tCons (tVar 3) (tCons (tVar 6) (tCons (tVar 7) tNil)))) (tCons (tVar 2) tNil)))))))))
  (sFld K (tVar 0) (tVar 5) "wish"))))))
theorem len_f_Sheet_move_rows {K : PySem.W.Frag} : ∀ ds R X, f_Sheet_move_rows K ds R X → ds.length = 3 := by
  rintro ds R X ⟨_, _, _, _, rfl, _⟩
  rfl
theorem len_Sheet_move_rows {K : PySem.W.Frag} : ∀ vs H Q E, sp_Sheet_move_rows K vs H Q E → vs.length = 3 := fun _ _ _ _ h => spOf_len len_f_Sheet_move_rows h
theorem cl_move_rows {K : PySem.W.Frag} {δ : Dl} {P : PX} {X : XX} {p : Addr} {s : Sh} {i : Nat} {m : Int} {ch : Bool} (hi : δ[i]? = some (some (.o p (osh K s)))) (F : RwF K) (C : ShC K) (wf : Wf s) (k : P (.d .non) (δ.set i (some (.o p (osh K (vertS s m ch)))))) : Cl (f_Sheet_move_rows K) [.a p, .d (.int m), .d (.bl ch)] δ P X :=
  ⟨_, [some i, none, none], .o hi (.d (.d .nil)), uq3o, p, s, m, ch, rfl, F, C, wf, k⟩
theorem pure_Sheet_move_rows {K : PySem.W.Frag} {vs : List V} {H : Hp} {Q : VK} {E : XK} (h : sp_Sheet_move_rows K vs H Q E) : t_Sheet_move_rows K E { nx := fun _ H' => Q .non H', rt := Q } (L2.start ["self", "many", "is_choosing", "rows", "number", "wish", "goal", "offset"] vs) H := by
  refine body (ts := t_Sheet_move_rows K) 3 5 rfl len_f_Sheet_move_rows (fun ds R X ⟨p, s, m, ch, e, F, C, wf, hk⟩ => ?_) h
  subst e
  show T K _ (t_Sheet_move_rows K E) [some (.o p (osh K s)), some (.d (.int m)), some (.d (.bl ch)), none, none, none, none, none] _ _ _
  unfold t_Sheet_move_rows
  have hl := wf.l
  have hch := wf.ch
  have rl := wf.rl
  have hlt := curS_lt wf
  have hr := rowR_get hlt
  have hpos := List.length_pos_iff.mpr hch.ne
  have hrd : ((rowsS s).map dR)[curS s]? = some (dR (rowR (rowsS s) (curS s))) := by rw [List.getElem?_map, hr]; rfl
  walk_at "xs"
  refine w_fn ?_
  walk_at "xs"
  refine ⟨rowsS s, s.caret, s.back, rfl, F, hch.ne, by omega, _, rfl, ?_⟩
  show T K _ _ [some (.o p (osh K s)), some (.d (.int m)), some (.d (.bl ch)), some (.d (.lst ((rowsS s).map dR))), some (.d (.int ((curS s : Nat) : Int))), none, none, none] _ _ _
  refine t_seq (t_set (W.imp (P := fun x δ' => x = .d (.int ((wishS s : Nat) : Int)) ∧ δ' = [some (.o p (osh K s)), some (.d (.int m)), some (.d (.bl ch)), some (.d (.lst ((rowsS s).map dR))), some (.d (.int ((curS s : Nat) : Int))), none, none, none]) ?_ ?_))
  · walk_at "xs"
    cases hw : s.wish with
    | none =>
      have ew : wishS s = colOf s.now (rowR (rowsS s) (curS s)).1 s.caret := by unfold wishS; rw [hw]; rfl
      refine ⟨fun _ => ?_, fun z => nomatch z⟩
      refine w_fn ?_
      walk_at "xs"
      refine rd_ixL (atI_nat hrd) ⟨_, rfl, ?_⟩
      walk_at "xs"
      refine ⟨s.now, (rowR (rowsS s) (curS s)).1, (rowR (rowsS s) (curS s)).2.1, (rowR (rowsS s) (curS s)).2.2, s.caret, rfl, F, hl, ?_⟩
      rw [ew]
      exact ⟨rfl, trivial⟩
    | some v =>
      have ew : wishS s = v := by unfold wishS; rw [hw]; rfl
      refine ⟨(fun z => nomatch z), fun _ => ?_⟩
      walk_at "xs"
      rw [hw, ew]
      exact ⟨rfl, trivial⟩
  rintro x δ' ⟨rfl, rfl⟩
  refine ⟨_, rfl, ?_⟩
  show T K _ _ [some (.o p (osh K s)), some (.d (.int m)), some (.d (.bl ch)), some (.d (.lst ((rowsS s).map dR))), some (.d (.int ((curS s : Nat) : Int))), some (.d (.int ((wishS s : Nat) : Int))), none, none] _ _ _
  refine t_seq (t_set (w_op (w_var rfl (w_var rfl (rd_I0i ⟨_, rfl, ?_⟩)))))
  refine t_seq (T.imp (N := fun δ => ∃ (x6 x7 : Option Dx), δ = [some (.o p (osh K (putS s (vertP s m).1 (vertP s m).2 ch))), some (.d (.int m)), some (.d (.bl ch)), some (.d (.lst ((rowsS s).map dR))), some (.d (.int ((curS s : Nat) : Int))), some (.d (.int ((wishS s : Nat) : Int))), x6, x7]) (R := fun _ _ => False) ?_ ?_ (fun _ _ z => z.elim))
  · have hq1 : ((curS s : Int) + m < 0 ∧ curS s = 0) → vertP s m = (0, false) := fun h => by unfold vertP; rw [if_pos h]
    have hq2 : ¬ ((curS s : Int) + m < 0 ∧ curS s = 0) → (((rowsS s).length : Int) ≤ (curS s : Int) + m ∧ curS s = (rowsS s).length - 1) → vertP s m = (s.now.length, false) := fun h h' => by unfold vertP; rw [if_neg h, if_pos h']
    have third : ¬ ((curS s : Int) + m < 0 ∧ curS s = 0) → ¬ (((rowsS s).length : Int) ≤ (curS s : Int) + m ∧ curS s = (rowsS s).length - 1) → T K (fun c d _ H => E c d H) (tSeq (tAsg (tCB rMx2 (tCons (tC (.int 0)) (tCons (tCB rMn2 (tCons (tVar 6) (tCons (tOp rMinus (tCB (rLen K) (tCons (tVar 3) tNil)) (tC (.int 1))) tNil))) tNil))) (gName 6))
  (tSeq (tAsg (tCall (sp_offset_at K) [] L2.E0 (tCons (tFld K (tVar 0) "now") (tCons (tOp (rIxL K) (tVar 3) (tVar 6)) (tCons (tVar 5) tNil)))) (gName 7))
  (tDrop (tMeth (He.ga K "Sheet") "put" (sp_Sheet_put K) [] L2.E0 (tVar 0) (tCons (tVar 7) (tCons (tCall (sp_is_soft_end K) [] L2.E0 (tCons (tVar 3) (tCons (tVar 6) (tCons (tVar 7) tNil)))) (tCons (tVar 2) tNil)))))))
        [some (.o p (osh K s)), some (.d (.int m)), some (.d (.bl ch)), some (.d (.lst ((rowsS s).map dR))), some (.d (.int ((curS s : Nat) : Int))), some (.d (.int ((wishS s : Nat) : Int))), some (.d (.int ((curS s : Int) + m))), none] (fun δ => ∃ (x6 x7 : Option Dx), δ = [some (.o p (osh K (putS s (vertP s m).1 (vertP s m).2 ch))), some (.d (.int m)), some (.d (.bl ch)), some (.d (.lst ((rowsS s).map dR))), some (.d (.int ((curS s : Nat) : Int))), some (.d (.int ((wishS s : Nat) : Int))), x6, x7]) (fun _ _ => False) (fun C δ' => X C (outs [Dx.o p (osh K s), Dx.d (.int m), Dx.d (.bl ch)] δ') ∧ keepP [Dx.o p (osh K s), Dx.d (.int m), Dx.d (.bl ch)] δ') := fun n1 n2 => by
      have hq3 : vertP s m = (nearF s.now (rowR (rowsS s) (goalN (curS s) m (rowsS s).length)).1 (rowR (rowsS s) (goalN (curS s) m (rowsS s).length)).2.1 (wishS s), softE (rowsS s) (goalN (curS s) m (rowsS s).length) (nearF s.now (rowR (rowsS s) (goalN (curS s) m (rowsS s).length)).1 (rowR (rowsS s) (goalN (curS s) m (rowsS s).length)).2.1 (wishS s))) := by unfold vertP; rw [if_neg n1, if_neg n2]
      rw [hq3]
      have hg := goalN_lt (n := curS s) (m := m) hpos
      have hgr := rowR_get hg
      have hm := hch.mem _ (rowR_mem hg)
      have hgd : ((rowsS s).map dR)[goalN (curS s) m (rowsS s).length]? = some (dR (rowR (rowsS s) (goalN (curS s) m (rowsS s).length))) := by rw [List.getElem?_map, hgr]; rfl
      walk_at "xs"
      rw [List.length_map]
      have eg : (if (if ((rowsS s).length : Int) - 1 < (curS s : Int) + m then ((rowsS s).length : Int) - 1 else (curS s : Int) + m) > 0 then (if ((rowsS s).length : Int) - 1 < (curS s : Int) + m then ((rowsS s).length : Int) - 1 else (curS s : Int) + m) else 0) = ((goalN (curS s) m (rowsS s).length : Nat) : Int) := by
        unfold goalN
        split <;> split at * <;> omega
      rw [eg]
      generalize goalN (curS s) m (rowsS s).length = g at *
      refine w_fn ?_
      walk_at "xs"
      refine rd_ixL (atI_nat hgd) ⟨_, rfl, ?_⟩
      walk_at "xs"
      refine ⟨s.now, _, _, _, (wishS s : Int), rfl, F, hl, hm.2.1, hm.2.2, fun f nf => ?_⟩
      rw [nearF_eq nf]
      walk_at "xs"
      refine w_mV rfl (by decide) ?_
      walk_at "xs"
      refine w_fn ?_
      walk_at "xs"
      refine ⟨rowsS s, g, _, f, rfl, F, hgr, ?_⟩
      have e1 : ((rowR (rowsS s) g).2.2 && decide ((f : Int) = ((rowR (rowsS s) g).2.1 : Int))) = softE (rowsS s) g f := by
        unfold softE
        rw [hgr]
        have : decide ((f : Int) = ((rowR (rowsS s) g).2.1 : Int)) = decide (f = (rowR (rowsS s) g).2.1) := decide_eq_decide.mpr (by omega)
        rw [this]
      rw [e1]
      walk_at "xs"
      exact cl_put (i := 0) rfl F C wf (by have := nf.hi; omega) ⟨_, _, rfl⟩
    walk_at "xs"
    refine ⟨fun h1 => ?_, fun h1 => ?_⟩
    · have h1 := of_decide_eq_true h1
      walk_at "xs"
      refine ⟨fun h2 => ?_, fun h2 => ?_⟩
      · have h2 := of_decide_eq_true h2
        rw [hq1 ⟨h1, by omega⟩]
        walk_at "xs"
        refine w_mV rfl (by decide) ?_
        walk_at "xs"
        exact cl_put (o := 0) (i := 0) rfl F C wf (Nat.zero_le _) ⟨_, _, rfl⟩
      · have h2 := of_decide_eq_false h2
        have n1 : ¬ ((curS s : Int) + m < 0 ∧ curS s = 0) := fun z => h2 (by omega)
        walk_at "xs"
        rw [List.length_map]
        refine ⟨fun h3 => ?_, fun h3 => ⟨(fun z => nomatch z), fun _ => third n1 fun z => ?_⟩⟩
        · have h3 := of_decide_eq_true h3
          omega
        · have h3 := of_decide_eq_false h3
          omega
    · have h1 := of_decide_eq_false h1
      have n1 : ¬ ((curS s : Int) + m < 0 ∧ curS s = 0) := fun z => h1 z.1
      refine ⟨(fun z => nomatch z), fun _ => ?_⟩
      walk_at "xs"
      rw [List.length_map]
      refine ⟨fun h3 => ?_, fun h3 => ?_⟩
      · have h3 := of_decide_eq_true h3
        walk_at "xs"
        rw [List.length_map]
        refine ⟨fun h4 => ?_, fun h4 => ?_⟩
        · have h4 := of_decide_eq_true h4
          rw [hq2 n1 ⟨h3, by omega⟩]
          walk_at "xs"
          refine w_mV rfl (by decide) ?_
          walk_at "xs"
          exact cl_put (i := 0) rfl F C wf (Nat.le_refl _) ⟨_, _, rfl⟩
        · have h4 := of_decide_eq_false h4
          exact third n1 fun z => h4 (by omega)
      · have h3 := of_decide_eq_false h3
        exact ⟨(fun z => nomatch z), fun _ => third n1 fun z => h3 z.1⟩
  rintro δ ⟨x6, x7, rfl⟩
  refine t_wish C ?_
  walk_at "xs"
  exact ⟨some (wishS s), p, _, rfl, rfl, hk, rfl, trivial⟩
end Cr

namespace Cr
open PySem L2
local macro_rules | `(tactic| walk_at "x") => `(tactic| first | with_reducible refine t_seq ?_ | with_reducible refine t_ret ?_ | with_reducible refine t_set ?_ | with_reducible refine t_drop ?_ | with_reducible refine t_if ?_ | with_reducible refine t_next ?_ | with_reducible refine t_raise ?_ | with_reducible refine t_asg ?_ | with_reducible refine t_retN ?_ | with_reducible refine w_op ?_ | ((with_reducible refine' w_var ?h ?_); (case h => rfl)) | ((with_reducible refine' w_own ?h ?_); (case h => rfl)) | with_reducible refine w_int ?_ | ((with_reducible refine' w_k ?h ?_); (case h => decide +kernel)) | with_reducible refine w_bl ?_ | with_reducible refine w_non ?_ | with_reducible refine w_if ?_ | with_reducible refine w_andV ?_ | with_reducible refine w_orV ?_ | with_reducible refine w_notV ?_ | with_reducible refine w_tup ?_ | with_reducible refine w_lst ?_ | with_reducible refine w_cb ?_ | with_reducible refine w_chain ?_ | with_reducible refine w_slS ?_ | with_reducible refine w_slL ?_ | with_reducible refine w_find1 ?_ | with_reducible refine w_find2 ?_ | with_reducible refine w_rfind1 ?_ | with_reducible refine w_rfind3 ?_ | with_reducible refine w_neg ?_ | with_reducible refine w_ref ?_ | with_reducible refine w_ty ?_ | with_reducible refine wt_test ?_ | with_reducible refine wt_B ?_ | with_reducible refine wt_and ?_ | with_reducible refine wt_or ?_ | with_reducible refine wt_not ?_ | with_reducible refine wt_yes ?_ | with_reducible refine wd_nil ?_ | with_reducible refine wd_cons ?_ | with_reducible refine wa_nil ?_ | with_reducible refine wa_cons ?_ | with_reducible refine wo_none ?_ | with_reducible refine wo_some ?_ | with_reducible refine rd_I0i ?_ | with_reducible refine rd_I0b ?_ | with_reducible refine rd_eqI ?_ | with_reducible refine rd_neI ?_ | with_reducible refine rd_eqS ?_ | with_reducible refine rd_neS ?_ | with_reducible refine rd_isN ?_ | with_reducible refine rd_notN ?_ | with_reducible refine rd_inSign ?_ | with_reducible refine cd_lenL ?_ | ((with_reducible refine' cd_lenS ?h ?_); (case h => first | assumption | omega)) | with_reducible refine cd_lenT ?_ | with_reducible refine cd_lenR ?_ | with_reducible refine cd_abs ?_ | with_reducible refine cd_max2 ?_ | with_reducible refine cd_min2 ?_ | with_reducible refine cd_intB ?_ | with_reducible refine cd_ord ?_ | with_reducible refine g_name ?_ | with_reducible refine ⟨_, rfl, ?_⟩ | with_reducible refine rd_leS ?_ | ((with_reducible refine' w_now ?C ?h ?_); (case C => assumption); (case h => rfl)) | ((with_reducible refine' w_width ?C ?h ?_); (case C => assumption); (case h => rfl)) | ((with_reducible refine' w_height ?C ?h ?_); (case C => assumption); (case h => rfl)) | ((with_reducible refine' w_caret ?C ?h ?_); (case C => assumption); (case h => rfl)) | ((with_reducible refine' w_is_back ?C ?h ?_); (case C => assumption); (case h => rfl)) | ((with_reducible refine' w_anchor ?C ?h ?_); (case C => assumption); (case h => rfl)) | ((with_reducible refine' w_wish ?C ?h ?_); (case C => assumption); (case h => rfl)) | ((with_reducible refine' w_first ?C ?h ?_); (case C => assumption); (case h => rfl)) | ((with_reducible refine' w_mText ?h ?R ?C ?wf ?e ?_); (case h => rfl); (case R => assumption); (case C => assumption); (case wf => assumption); (case e => rfl)) | ((with_reducible refine' w_mRows ?h ?R ?C ?wf ?e ?_); (case h => rfl); (case R => assumption); (case C => assumption); (case wf => assumption); (case e => rfl)) | ((with_reducible refine' w_mAt ?h ?R ?C ?wf ?e ?_); (case h => rfl); (case R => assumption); (case C => assumption); (case wf => assumption); (case e => rfl)) | ((with_reducible refine' w_mChosen ?h ?R ?C ?wf ?e ?_); (case h => rfl); (case R => assumption); (case C => assumption); (case wf => assumption); (case e => rfl)) | ((with_reducible refine' w_mChosenT ?h ?R ?C ?wf ?e ?_); (case h => rfl); (case R => assumption); (case C => assumption); (case wf => assumption); (case e => rfl)) | ((with_reducible refine' w_mView ?h ?R ?C ?wf ?e ?_); (case h => rfl); (case R => assumption); (case C => assumption); (case wf => assumption); (case e => rfl)))
local macro_rules | `(tactic| walk_at "xs") => `(tactic| repeat (first | with_reducible refine t_seq ?_ | with_reducible refine t_ret ?_ | with_reducible refine t_set ?_ | with_reducible refine t_drop ?_ | with_reducible refine t_if ?_ | with_reducible refine t_next ?_ | with_reducible refine t_raise ?_ | with_reducible refine t_asg ?_ | with_reducible refine t_retN ?_ | with_reducible refine w_op ?_ | ((with_reducible refine' w_var ?h ?_); (case h => rfl)) | ((with_reducible refine' w_own ?h ?_); (case h => rfl)) | with_reducible refine w_int ?_ | ((with_reducible refine' w_k ?h ?_); (case h => decide +kernel)) | with_reducible refine w_bl ?_ | with_reducible refine w_non ?_ | with_reducible refine w_if ?_ | with_reducible refine w_andV ?_ | with_reducible refine w_orV ?_ | with_reducible refine w_notV ?_ | with_reducible refine w_tup ?_ | with_reducible refine w_lst ?_ | with_reducible refine w_cb ?_ | with_reducible refine w_chain ?_ | with_reducible refine w_slS ?_ | with_reducible refine w_slL ?_ | with_reducible refine w_find1 ?_ | with_reducible refine w_find2 ?_ | with_reducible refine w_rfind1 ?_ | with_reducible refine w_rfind3 ?_ | with_reducible refine w_neg ?_ | with_reducible refine w_ref ?_ | with_reducible refine w_ty ?_ | with_reducible refine wt_test ?_ | with_reducible refine wt_B ?_ | with_reducible refine wt_and ?_ | with_reducible refine wt_or ?_ | with_reducible refine wt_not ?_ | with_reducible refine wt_yes ?_ | with_reducible refine wd_nil ?_ | with_reducible refine wd_cons ?_ | with_reducible refine wa_nil ?_ | with_reducible refine wa_cons ?_ | with_reducible refine wo_none ?_ | with_reducible refine wo_some ?_ | with_reducible refine rd_I0i ?_ | with_reducible refine rd_I0b ?_ | with_reducible refine rd_eqI ?_ | with_reducible refine rd_neI ?_ | with_reducible refine rd_eqS ?_ | with_reducible refine rd_neS ?_ | with_reducible refine rd_isN ?_ | with_reducible refine rd_notN ?_ | with_reducible refine rd_inSign ?_ | with_reducible refine cd_lenL ?_ | ((with_reducible refine' cd_lenS ?h ?_); (case h => first | assumption | omega)) | with_reducible refine cd_lenT ?_ | with_reducible refine cd_lenR ?_ | with_reducible refine cd_abs ?_ | with_reducible refine cd_max2 ?_ | with_reducible refine cd_min2 ?_ | with_reducible refine cd_intB ?_ | with_reducible refine cd_ord ?_ | with_reducible refine g_name ?_ | with_reducible refine ⟨_, rfl, ?_⟩ | with_reducible refine rd_leS ?_ | ((with_reducible refine' w_now ?C ?h ?_); (case C => assumption); (case h => rfl)) | ((with_reducible refine' w_width ?C ?h ?_); (case C => assumption); (case h => rfl)) | ((with_reducible refine' w_height ?C ?h ?_); (case C => assumption); (case h => rfl)) | ((with_reducible refine' w_caret ?C ?h ?_); (case C => assumption); (case h => rfl)) | ((with_reducible refine' w_is_back ?C ?h ?_); (case C => assumption); (case h => rfl)) | ((with_reducible refine' w_anchor ?C ?h ?_); (case C => assumption); (case h => rfl)) | ((with_reducible refine' w_wish ?C ?h ?_); (case C => assumption); (case h => rfl)) | ((with_reducible refine' w_first ?C ?h ?_); (case C => assumption); (case h => rfl)) | ((with_reducible refine' w_mText ?h ?R ?C ?wf ?e ?_); (case h => rfl); (case R => assumption); (case C => assumption); (case wf => assumption); (case e => rfl)) | ((with_reducible refine' w_mRows ?h ?R ?C ?wf ?e ?_); (case h => rfl); (case R => assumption); (case C => assumption); (case wf => assumption); (case e => rfl)) | ((with_reducible refine' w_mAt ?h ?R ?C ?wf ?e ?_); (case h => rfl); (case R => assumption); (case C => assumption); (case wf => assumption); (case e => rfl)) | ((with_reducible refine' w_mChosen ?h ?R ?C ?wf ?e ?_); (case h => rfl); (case R => assumption); (case C => assumption); (case wf => assumption); (case e => rfl)) | ((with_reducible refine' w_mChosenT ?h ?R ?C ?wf ?e ?_); (case h => rfl); (case R => assumption); (case C => assumption); (case wf => assumption); (case e => rfl)) | ((with_reducible refine' w_mView ?h ?R ?C ?wf ?e ?_); (case h => rfl); (case R => assumption); (case C => assumption); (case wf => assumption); (case e => rfl)) | simp only [List.set_cons_succ, List.set_cons_zero]))
theorem cl_flat {K : PySem.W.Frag} {δ : Dl} {P : PX} {X : XX} {p : Addr} {s : Sh} {i : Nat} {mv : List Nat} (hi : δ[i]? = some (some (.o p (osh K s)))) (C : ShC K) (wf : Wf s) (hs : δ.set i (some (.o p (osh K s))) = δ) (k : ∀ e, FG s.now s.caret mv e → P (.d (.int ((e : Nat) : Int))) δ) : Cl (f_Sheet_flat_goal K) [.a p, .d (.str mv)] δ P X :=
  ⟨_, [some i, none], .o hi (.d .nil), uq2, p, s, mv, rfl, C, wf, fun e he => by
    show P _ (δ.set i (some (.o p (osh K s))))
    rw [hs]
    exact k e he⟩
def f_Sheet_move (K : PySem.W.Frag) : FS := fun ys R X => ∃ (p : Addr) (s : Sh) (mv : List Nat) (ch : Bool), ys = [.o p (osh K s), .d (.str mv), .d (.bl ch)] ∧ RwF K ∧ ShC K ∧ CoF K ∧ Wf s ∧ (mv ∉ movesL → X "BadMove" [some (.o p (osh K s)), none, none]) ∧ (mv ∈ movesL → R .non [some (.o p (osh K (moveS s mv ch))), none, none])
abbrev sp_Sheet_move (K : PySem.W.Frag) : Sp := SpOf K (f_Sheet_move K)
def t_Sheet_move (K : PySem.W.Frag) (E : XK) : TS := (tSeq (tIfS (tTest (tOp (rIn K true) (tVar 1) (tC (.ref (He.ga K "MOVES"))))) (tRz E (He.ga K "BadMove")) tNext)
  (tSeq (tAsg (tMeth (He.ga K "Sheet") "chosen" (sp_Sheet_chosen K) [] L2.E0 (tVar 0) tNil) (gTup K 2 (gCons (gName 3) (gCons (gName 4) gNil))))
  (tSeq (tIfS (tTest (tOp (rIn K false) (tVar 1) (tC (.ref (He.ga K "VERTICAL"))))) (tSeq (tDrop (tMeth (He.ga K "Sheet") "move_rows" (sp_Sheet_move_rows K) [] L2.E0 (tVar 0) (tCons (tDGet (tDisp [((tK [117, 112] "up"), (tUn (rU fun i => .int (-i)) (tC (.int 1)))), ((tK [100, 111, 119, 110] "down"), (tC (.int 1))), ((tK [112, 97, 103, 101, 117, 112] "pageup"), (tOp rMinus (tC (.int 0)) (tFld K (tVar 0) "height"))), ((tK [112, 97, 103, 101, 100, 111, 119, 110] "pagedown"), (tFld K (tVar 0) "height"))]) (tVar 1)) (tCons (tVar 2) tNil))))
  tRetN) tNext)
  (tSeq (sFld K (tVar 0) (tC .non) "wish")
  (tSeq (tAsg (tMeth (He.ga K "Sheet") "rows" (sp_Sheet_rows K) [] L2.E0 (tVar 0) tNil) (gName 5))
  (tSeq (tAsg (tOp (rIxL K) (tVar 5) (tCall (sp_row_at K) [] L2.E0 (tCons (tVar 5) (tCons (tFld K (tVar 0) "caret") (tCons (tFld K (tVar 0) "is_back") tNil))))) (gName 6))
  (tIfS (tTest (tOp (rIn K false) (tVar 1) (tTup (tCons (tK [104, 111, 109, 101] "home") (tCons (tK [101, 110, 100] "end") tNil))))) (tDrop (tMeth (He.ga K "Sheet") "put" (sp_Sheet_put K) [] L2.E0 (tVar 0) (tCons (tIf (tTest (tOp rEq (tVar 1) (tK [104, 111, 109, 101] "home"))) (tFld K (tVar 6) "start") (tFld K (tVar 6) "end")) (tCons (tOp rEq (tVar 1) (tK [101, 110, 100] "end")) (tCons (tVar 2) tNil))))) (tIfS (tAnd (tTest (tOp (rIn K false) (tVar 1) (tTup (tCons (tK [108, 101, 102, 116] "left") (tCons (tK [114, 105, 103, 104, 116] "right") tNil))))) (tAnd (tTest (tOp rLt' (tVar 3) (tVar 4))) (tNot (tB (tVar 2))))) (tDrop (tMeth (He.ga K "Sheet") "put" (sp_Sheet_put K) [] L2.E0 (tVar 0) (tCons (tIf (tTest (tOp rEq (tVar 1) (tK [108, 101, 102, 116] "left"))) (tVar 3) (tVar 4)) (tCons (tC (.bl false)) (tCons (tC (.bl false)) tNil))))) (tDrop (tMeth (He.ga K "Sheet") "put" (sp_Sheet_put K) [] L2.E0 (tVar 0) (tCons (tMeth (He.ga K "Sheet") "flat_goal" (sp_Sheet_flat_goal K) [] L2.E0 (tVar 0) (tCons (tVar 1) tNil)) (tCons (tC (.bl false)) (tCons (tVar 2) tNil)))))))))))))
theorem len_f_Sheet_move {K : PySem.W.Frag} : ∀ ds R X, f_Sheet_move K ds R X → ds.length = 3 := by
  rintro ds R X ⟨_, _, _, _, rfl, _⟩
  rfl
theorem len_Sheet_move {K : PySem.W.Frag} : ∀ vs H Q E, sp_Sheet_move K vs H Q E → vs.length = 3 := fun _ _ _ _ h => spOf_len len_f_Sheet_move h
theorem cl_move {K : PySem.W.Frag} {δ : Dl} {P : PX} {X : XX} {p : Addr} {s : Sh} {i : Nat} {mv : List Nat} {ch : Bool} (hi : δ[i]? = some (some (.o p (osh K s)))) (F : RwF K) (C : ShC K) (M : CoF K) (wf : Wf s) (k1 : mv ∉ movesL → X "BadMove" (δ.set i (some (.o p (osh K s))))) (k2 : mv ∈ movesL → P (.d .non) (δ.set i (some (.o p (osh K (moveS s mv ch)))))) : Cl (f_Sheet_move K) [.a p, .d (.str mv), .d (.bl ch)] δ P X :=
  ⟨_, [some i, none, none], .o hi (.d (.d .nil)), uq3o, p, s, mv, ch, rfl, F, C, M, wf, k1, k2⟩
theorem pure_Sheet_move {K : PySem.W.Frag} {vs : List V} {H : Hp} {Q : VK} {E : XK} (h : sp_Sheet_move K vs H Q E) : t_Sheet_move K E { nx := fun _ H' => Q .non H', rt := Q } (L2.start ["self", "move", "is_choosing", "first", "last", "rows", "row"] vs) H := by
  refine body (ts := t_Sheet_move K) 3 4 rfl len_f_Sheet_move (fun ds R X ⟨p, s, mv, ch, e, F, C, M, wf, k1, k2⟩ => ?_) h
  subst e
  show T K _ (t_Sheet_move K E) [some (.o p (osh K s)), some (.d (.str mv)), some (.d (.bl ch)), none, none, none, none] _ _ _
  unfold t_Sheet_move
  have hl := wf.l
  have hc := wf.c
  have ha := wf.a
  have hch := wf.ch
  have rl := wf.rl
  have hlt := curS_lt wf
  have hr := rowR_get hlt
  have hrd : ((rowsS s).map dR)[curS s]? = some (dR (rowR (rowsS s) (curS s))) := by rw [List.getElem?_map, hr]; rfl
  have hm := hch.mem _ (rowR_mem hlt)
  refine t_seq (t_if (wt_test (w_op (w_var rfl (w_con M.mv (rd_notInT ⟨_, rfl, fun hb => t_raise ⟨k1 (by simpa using hb), rfl, trivial⟩, fun hb => t_next ?_⟩))))))
  have hin : mv ∈ movesL := by simpa using hb
  have hk := k2 hin
  clear k1 k2 hb
  walk_at "xs"
  unfold chD
  refine g_tup rfl (gs_cons (g_name (gs_cons (g_name (gs_nil ?_)))))
  refine t_seq (t_if (wt_test (w_op (w_var rfl (w_con M.vt (rd_inT ⟨_, rfl, fun hb => ?_, fun hb => t_next ?_⟩))))))
  · have hb : mv ∈ vertL := of_decide_eq_true hb
    refine t_seq (t_drop (w_mV rfl (by decide) ?_))
    refine wa_cons (w_dispGet ?_)
    refine wp_cons (by decide +kernel) ?_
    walk_at "xs"
    refine wp_cons (by decide +kernel) ?_
    walk_at "xs"
    refine wp_cons (by decide +kernel) ?_
    walk_at "xs"
    refine wp_cons (by decide +kernel) ?_
    walk_at "xs"
    refine wp_nil ⟨by show 4 ≤ 15; decide, by show ([mUp, mDown, mPgU, mPgD] : List (List Nat)).Nodup; decide, ?_⟩
    obtain ⟨m, hvm⟩ : ∃ m, vertM s.height mv = some m := by
      cases z : vertM s.height mv with
      | none => exact absurd hb (vertM_none.mp z)
      | some m => exact ⟨m, rfl⟩
    have hlk : lookD [(mUp, Da.int (-1)), (mDown, .int 1), (mPgU, .int (0 - (s.height : Int))), (mPgD, .int (s.height : Int))] mv = some (.int m) := by
      unfold vertL at hb
      simp only [List.mem_cons, List.not_mem_nil, or_false] at hb
      rcases hb with rfl | rfl | rfl | rfl <;> (simp only [vertM] at hvm; cases hvm; rfl)
    refine w_var rfl ⟨mv, _, rfl, hlk, ?_⟩
    walk_at "xs"
    refine cl_move_rows (i := 0) rfl F C wf (t_retN ⟨?_, rfl, trivial⟩)
    have : moveS s mv ch = vertS s m ch := by unfold moveS; rw [hvm]
    rw [this] at hk
    exact hk
  have nv : mv ∉ vertL := of_decide_eq_false hb
  have hmv : moveS s mv ch = flatS s mv ch := by unfold moveS; rw [vertM_none.mpr nv]
  rw [hmv] at hk
  clear hmv hb
  refine t_seq (t_wish C (w_non ⟨none, p, s, rfl, rfl, ?_⟩))
  have wf1 : Wf { s with wish := none } := wf.wish none
  refine t_seq (t_set (w_mRows rfl F C wf1 rfl ⟨_, rfl, ?_⟩))
  refine t_seq (t_set (w_op (w_var rfl (w_fn ?_))))
  walk_at "xs"
  refine ⟨rowsS s, s.caret, s.back, rfl, F, hch.ne, by omega, rd_ixL (atI_nat hrd) ⟨_, rfl, ?_⟩⟩
  show T K _ _ [some (.o p (osh K { s with wish := none })), some (.d (.str mv)), some (.d (.bl ch)), some (.d (.int ((min s.caret s.anchor : Nat) : Int))), some (.d (.int ((max s.caret s.anchor : Nat) : Int))), some (.d (.lst ((rowsS s).map dR))), some (.d (dR (rowR (rowsS s) (curS s))))] _ _ _
  unfold flatS at hk
  walk_at "xs"
  refine ⟨by show 2 ≤ 16000000; decide, ?_⟩
  refine rd_inT (ls := [mHome, mEnd]) ⟨_, rfl, fun hb => ?_, fun n1 => ?_⟩
  · have hb : mv ∈ [mHome, mEnd] := of_decide_eq_true hb
    refine t_drop (w_mV rfl (by decide) (wa_cons ?_))
    walk_at "xs"
    refine ⟨fun hb2 => ?_, fun hb2 => ?_⟩
    · have hb2 : mv = mHome := of_decide_eq_true hb2
      subst hb2
      rw [if_pos rfl] at hk
      refine w_start F ?_
      walk_at "xs"
      refine ⟨_, _, _, rfl, ?_⟩
      walk_at "xs"
      exact cl_put (b := false) (i := 0) rfl F C wf1 (by show _ ≤ s.now.length; omega) ⟨hk, rfl, trivial⟩
    · have hb2 : ¬ mv = mHome := of_decide_eq_false hb2
      have hb3 : mv = mEnd := by simpa [hb2] using hb
      rw [if_neg hb2, if_pos hb3] at hk
      refine w_end F ?_
      walk_at "xs"
      refine ⟨_, _, _, rfl, ?_⟩
      walk_at "xs"
      have e1 : decide (mv = [101, 110, 100]) = true := decide_eq_true hb3
      rw [e1]
      exact cl_put (b := true) (i := 0) rfl F C wf1 (by show _ ≤ s.now.length; omega) ⟨hk, rfl, trivial⟩
  have n1 : ¬ mv ∈ [mHome, mEnd] := of_decide_eq_false n1
  have n2 : ¬ mv = mHome := fun z => n1 (by rw [z]; exact List.mem_cons_self)
  have n3 : ¬ mv = mEnd := fun z => n1 (by rw [z]; exact List.mem_cons_of_mem _ List.mem_cons_self)
  rw [if_neg n2, if_neg n3] at hk
  have third : ¬ ((mv = mLeft ∨ mv = mRight) ∧ min s.caret s.anchor < max s.caret s.anchor ∧ ch = false) → T K (fun c d _ H => E c d H) (tDrop (tMeth (He.ga K "Sheet") "put" (sp_Sheet_put K) [] L2.E0 (tVar 0) (tCons (tMeth (He.ga K "Sheet") "flat_goal" (sp_Sheet_flat_goal K) [] L2.E0 (tVar 0) (tCons (tVar 1) tNil)) (tCons (tC (.bl false)) (tCons (tVar 2) tNil))))) [some (.o p (osh K { s with wish := none })), some (.d (.str mv)), some (.d (.bl ch)), some (.d (.int ((min s.caret s.anchor : Nat) : Int))), some (.d (.int ((max s.caret s.anchor : Nat) : Int))), some (.d (.lst ((rowsS s).map dR))), some (.d (dR (rowR (rowsS s) (curS s))))] (fun δ' => R .non (outs [.o p (osh K s), .d (.str mv), .d (.bl ch)] δ') ∧ keepP [.o p (osh K s), .d (.str mv), .d (.bl ch)] δ') (fun x δ' => RetD K 3 x δ' (fun d => R d (outs [.o p (osh K s), .d (.str mv), .d (.bl ch)] δ')) ∧ keepP [.o p (osh K s), .d (.str mv), .d (.bl ch)] δ') (fun C δ' => X C (outs [.o p (osh K s), .d (.str mv), .d (.bl ch)] δ') ∧ keepP [.o p (osh K s), .d (.str mv), .d (.bl ch)] δ') := fun n4 => by
    rw [if_neg n4] at hk
    refine t_drop (w_mV rfl (by decide) (wa_cons (w_mV rfl (by decide) ?_)))
    walk_at "xs"
    refine cl_flat (s := { s with wish := none }) (i := 0) rfl C wf1 rfl fun e he => ?_
    have he' : FG s.now s.caret mv e := he
    rw [flatF_eq hc he'] at hk
    walk_at "xs"
    exact cl_put (b := false) (i := 0) rfl F C wf1 (fg_le hc he') ⟨hk, rfl, trivial⟩
  refine t_if (wt_and (wt_test (w_op (w_var rfl (w_tup ?_)))))
  walk_at "xs"
  refine ⟨by show 2 ≤ 16000000; decide, ?_⟩
  refine rd_inT (ls := [mLeft, mRight]) ⟨_, rfl, fun hb => ?_, fun n5 => ?_⟩
  · have hb : mv ∈ [mLeft, mRight] := of_decide_eq_true hb
    have hb' : mv = mLeft ∨ mv = mRight := by simpa using hb
    walk_at "xs"
    refine ⟨fun h1 => ?_, fun h1 => ?_⟩
    · have h1 := of_decide_eq_true h1
      walk_at "xs"
      cases ch with
      | true => exact ⟨(fun z => nomatch z), fun _ => third fun z => nomatch z.2.2⟩
      | false =>
        refine ⟨fun _ => ?_, fun z => nomatch z⟩
        rw [if_pos ⟨hb', by omega, rfl⟩] at hk
        refine t_drop (w_mV rfl (by decide) (wa_cons ?_))
        walk_at "xs"
        refine ⟨fun h2 => ?_, fun h2 => ?_⟩
        · have h2 : mv = mLeft := of_decide_eq_true h2
          rw [if_pos h2] at hk
          walk_at "xs"
          exact cl_put (b := false) (i := 0) rfl F C wf1 (by show _ ≤ s.now.length; omega) ⟨hk, rfl, trivial⟩
        · have h2 : ¬ mv = mLeft := of_decide_eq_false h2
          rw [if_neg h2] at hk
          walk_at "xs"
          exact cl_put (b := false) (i := 0) rfl F C wf1 (by show _ ≤ s.now.length; omega) ⟨hk, rfl, trivial⟩
    · have h1 := of_decide_eq_false h1
      exact ⟨(fun z => nomatch z), fun _ => third fun z => h1 (by have := z.2.1; omega)⟩
  · have n5 : ¬ mv ∈ [mLeft, mRight] := of_decide_eq_false n5
    exact ⟨(fun z => nomatch z), fun _ => third fun z => n5 (by simpa using z.1)⟩
end Cr

/-! list(d.keys()), sorted(d.keys()). -/
namespace Cr
open PySem PySem.Spec PyProof.Rows L2
def tListKeys (te : TE) : TE := fun σ H Q => te σ H fun x H1 => ∃ (d : Addr) (kvs : List (Key × V)), x = .ref d ∧ H1 d = some (.dK kvs) ∧ ∀ p, H1 p = none → Q (.ref p) (upd H1 p (.lst (kvs.map fun kv => kV kv.1)))
def tSortKeys (te : TE) : TE := fun σ H Q => te σ H fun x H1 => ∃ (d : Addr) (kvs : List (Key × V)) (ks : List Str), x = .ref d ∧ H1 d = some (.dK kvs) ∧ kvs.map (·.1) = ks.map Sum.inr ∧ ks.length < 64 ∧ ∀ ys p, ys.Perm ks → sortedS ys = true → H1 p = none → Q (.ref p) (upd H1 p (.lst (ys.map V.str)))
section
variable {X : Cx} {e : Expr} {te : TE} {p apos cpos pos : Pos}
theorem pe_listKeys (hc : X.calm = true) (he : PE X e te) (hg : Gl X "list") (hm : X.mg "list" = none) (hv : bootBuiltins "list" = some (.type "list")) (hbase : attributeBase e "keys" X.env (eval e X.env) = eval e X.env := by rfl) (hline : (apos.endLine == cpos.line) = true := by rfl)
    (hs : starEach [.Call (.Attribute e "keys" apos) [] [] cpos] X.env = (false, eval (.Call (.Attribute e "keys" apos) [] [] cpos) X.env) :: starEach [] X.env := by rfl) :
    PE X (.Call (.Name "list" p) [.Call (.Attribute e "keys" apos) [] [] cpos] [] pos) (tListKeys te) := by
  refine ⟨fun pins s σ H Q I hq => ?_⟩
  refine wpAny_Call_Name_kw (ld_blt I hg hm hv ?_)
  refine PyProof.Rows.callWith_type1 ?_ hs rfl
  rw [hs]
  show wpAny _ _ (spliced ((false, eval (.Call (.Attribute e "keys" apos) [] [] cpos) X.env) :: backTo pos (starEach [] X.env))) _ _ s
  refine Calls.spliced_cons ?_
  refine wpAny_Call_method (T := "dict") (id := "dict.keys") hbase rfl hline F.plainAttrs_dict F.slot_dict_keys F.type_dict_keys (thn (he.run pins s σ H _ I hq) fun u s1 ⟨x, H1, I1, rx, d, kvs, ex, hd, q⟩ => ?_)
  subst ex
  obtain rfl : u = Value.ref d := rx
  obtain ⟨hz, hs0, vs, kv, hdo⟩ := I1.hok d _ hd
  obtain ⟨ep, hat⟩ := hdo.dictAt
  have lk : kvs.length = vs.length := Paired.length kv
  have ek : (kvs.map fun kv => kV kv.1) = vs.map fun p => kV p.1 := by
    have e := congrArg (List.map kV) (KV.keys kv)
    rw [List.map_map, List.map_map] at e
    exact e
  have I2 : Inv X pins σ H1 { s1 with heap := s1.heap.push { cls := .type "dict_keys", data := .fields #[.ref d] } } := I1.kept (t' := s1.toks) fun b ob q => Heap.get?_push_of_some _ q
  refine ⟨hdo.typeIs, hdo.mapOf.noDict, ?_⟩
  show wpAny _ _ (callWith cpos (.builtin "dict.keys") [.ref d] [] []) _ X.xe s1
  refine method_meetsIn F.slot_dict_keys F.entry_dict_keys rfl (PySem.evalArgs_none ⟨rfl, hdo.typeIs, F.args_dict_keys_1 _, _, PySem.W.kdl_meets_keys (mixKind X.prog X.w) d hs0, ⟨vs, hdo⟩, ?_⟩)
  refine Calls.spliced_nil ?_
  refine PySem.W.kdl_call (PySem.W.kdl_keys (d := d) (knd := mixKind X.prog X.w) (kvs := vs) (ep := ep)) (I1.ok.hd hc) ⟨⟨_, Heap.get?_push_size _ rfl, rfl, rfl⟩, hat.push _⟩ (by omega) fun h' tk acc c' hk hD hacc => ?_
  have hv : Vals (vs.map fun p => kV p.1) acc.toList := keys_at (by rw [Array.length_toList]; exact hacc.1) fun j v e => hacc.2 j v (by rw [← Array.getElem?_toList]; exact e)
  refine ⟨.ref _, upd H1 _ (.lst (kvs.map fun kv => kV kv.1)), I2.laid (t' := tk) hk (Nat.le_refl _)
    (show ObjOk X.prog X.w _ _ _ (.lst (kvs.map fun kv => kV kv.1)) from ⟨by rw [List.length_map]; exact hz, acc.toList, c', by rw [ek]; exact hv, by rw [Array.toArray_toList]; exact hD⟩), rfl, q _ (I2.hok.fresh (Nat.le_refl _))⟩
theorem pe_sortKeys (hc : X.calm = true) (he : PE X e te) (hg : Gl X "sorted") (hm : X.mg "sorted" = none) (hv : bootBuiltins "sorted" = some (.builtin "sorted")) (hbase : attributeBase e "keys" X.env (eval e X.env) = eval e X.env := by rfl) (hline : (apos.endLine == cpos.line) = true := by rfl)
    (hs : starEach [.Call (.Attribute e "keys" apos) [] [] cpos] X.env = (false, eval (.Call (.Attribute e "keys" apos) [] [] cpos) X.env) :: starEach [] X.env := by rfl) :
    PE X (.Call (.Name "sorted" p) [.Call (.Attribute e "keys" apos) [] [] cpos] [] pos) (tSortKeys te) := by
  refine ⟨fun pins s σ H Q I hq => ?_⟩
  refine wpAny_Call_Name_kw (ld_blt I hg hm hv ?_)
  refine PyProof.Rows.callWith_builtin1 ?_ hs rfl
  rw [hs]
  show wpAny _ _ (spliced ((false, eval (.Call (.Attribute e "keys" apos) [] [] cpos) X.env) :: backTo pos (starEach [] X.env))) _ _ s
  refine Calls.spliced_cons ?_
  refine wpAny_Call_method (T := "dict") (id := "dict.keys") hbase rfl hline F.plainAttrs_dict F.slot_dict_keys F.type_dict_keys (thn (he.run pins s σ H _ I hq) fun u s1 ⟨x, H1, I1, rx, d, kvs, ks, ex, hd, hks, h64, q⟩ => ?_)
  subst ex
  obtain rfl : u = Value.ref d := rx
  obtain ⟨hz, hs0, vs, kv, hdo⟩ := I1.hok d _ hd
  obtain ⟨ep, hat⟩ := hdo.dictAt
  have lk : kvs.length = vs.length := Paired.length kv
  have hkeys : vs.map (·.1) = ks.map Sum.inr := (KV.keys kv).symm.trans hks
  have hl : vs.length = ks.length := by
    have e := congrArg List.length hkeys
    rw [List.length_map, List.length_map] at e
    exact e
  have h16 : vs.length ≤ sizeLine := by rw [hl, sizeLine_eq]; omega
  have I2 : Inv X pins σ H1 { s1 with heap := s1.heap.push { cls := .type "dict_keys", data := .fields #[.ref d] } } := I1.kept (t' := s1.toks) fun b ob q => Heap.get?_push_of_some _ q
  refine ⟨hdo.typeIs, hdo.mapOf.noDict, ?_⟩
  show wpAny _ _ (callWith cpos (.builtin "dict.keys") [.ref d] [] []) _ X.xe s1
  refine method_meetsIn F.slot_dict_keys F.entry_dict_keys rfl (PySem.evalArgs_none ⟨rfl, hdo.typeIs, F.args_dict_keys_1 _, _, PySem.W.kdl_meets_keys (mixKind X.prog X.w) d hs0, ⟨vs, hdo⟩, ?_⟩)
  refine Calls.spliced_nil ?_
  refine Calls.call_function_entry PyProof.Rows.kind_sorted PyProof.Rows.plain_sorted PyProof.Rows.entry_sorted (PyProof.Rows.args_sorted1 _) ?_
  unfold Builtin.«sorted»
  refine wpAny_bind (m := checkCount "sorted" 1 1 _) (wpAny_pure ?_)
  refine wpAny_bind (PySem.W.kdu_collect (A := X.A.in1) (PySem.W.kdl_keys (d := d) (knd := mixKind X.prog X.w) (kvs := vs) (ep := ep)) (I1.ok.hd hc) ⟨⟨_, Heap.get?_push_size _ rfl, rfl, rfl⟩, hat.push _⟩ h16 fun h' tk acc hk hacc => ?_)
  have hal : acc.toList.length = ks.length := by rw [Array.length_toList, hacc.1, hl]
  have hS : StrsAre acc.toList ks := strs_at hal fun j v e => by
    obtain ⟨k, x, e1, e2⟩ := hacc.2 j v (by rw [← Array.getElem?_toList]; exact e)
    have e3 : (vs.map (·.1))[j]? = some k := by rw [List.getElem?_map, e1]; all_goals rfl
    rw [hkeys, List.getElem?_map] at e3
    cases e4 : ks[j]? with
    | none => rw [e4] at e3; cases e3
    | some y =>
      rw [e4] at e3
      have e5 : Sum.inr y = k := Option.some.inj e3
      subst e5
      obtain ⟨t, ev⟩ := Value.isStrOf_shape (x := y) (v := v) e2
      exact ⟨y, t, rfl, ev⟩
  have I3 : Inv X pins σ H1 { s1 with heap := h', toks := tk } := I2.kept hk
  refine wpAny_bind (wpAny_newList ?_ (by rw [hal, sizeLine_eq]; omega))
  have hoL : (h'.push (seqObj "list" acc.toList.toArray 0)).get? h'.objs.size = some (seqObj "list" acc.toList.toArray 0) := Heap.get?_push_size _ rfl
  show wpAny _ _ _ _ _ { s1 with heap := h'.push (seqObj "list" acc.toList.toArray 0), toks := tk }
  refine wpAny_bind (wpAny_holding (wpAny_call_entry PyProof.Rows.slot_list_sort ⟨_, hoL, rfl⟩ PyProof.Rows.entry_list_sort
    (list_sort_treeK strKind_oneLt (s := { s1 with heap := h'.push (seqObj "list" acc.toList.toArray 0), toks := tk }) hoL hS.keysOf (fun v₁ v₂ rest e => keyKind_strs (by rw [← e]; exact hS)) (by rw [hal]; exact h64) fun st' hp hs => ⟨_, rfl, ?_⟩)
    (PyProof.Rows.args_list_sort _)))
  obtain ⟨ys, g1, g2, g3⟩ := sorted_out_str hS hp hs
  obtain ⟨e', he'⟩ := PyProof.Rows.sortedHeap_at (vs := acc.toList) (out := (arrOf st').map (·.2)) hoL
  have hlen : (ys.map V.str).length ≤ sizeLine := by
    rw [List.length_map, g2.length_eq]
    exact Nat.le_trans (Nat.le_of_lt h64) (by decide)
  refine wpAny_pure ⟨_, rfl, .ref h'.objs.size, upd H1 h'.objs.size (.lst (ys.map V.str)), I3.laid (t' := tk) (fun b u e => ?_) (Nat.le_refl _)
    (show ObjOk X.prog X.w _ _ _ (.lst (ys.map V.str)) from ⟨hlen, ((arrOf st').map (·.2)).toList, e', vals_of_strs g1, by rw [Array.toArray_toList]; exact he'⟩), rfl, q ys _ g2 g3 (I3.hok.fresh (Nat.le_refl _))⟩
  have hb : b < h'.objs.size := Heap.lt_size e
  rw [PyProof.Rows.sortedHeap_old (Nat.ne_of_lt hb) (by rw [size_push']; exact Nat.lt_succ_of_lt hb)]
  exact Heap.get?_push_of_some _ e
end
end Cr

/-! The marks of a sheet: a dict of its own. -/
namespace Cr
open PySem L2
abbrev Mks := List (List Nat × Nat)
def markOf (ms : Mks) (l : List Nat) : Option Nat := (ms.find? fun q => decide (q.1 = l)).map (·.2)
def putM (ms : Mks) (l : List Nat) (o : Nat) : Mks := if (ms.any fun q => decide (q.1 = l)) = true then ms.map (fun q => if q.1 = l then (q.1, o) else q) else ms ++ [(l, o)]
theorem key_iff {a b : List Nat} : ((.inr (S a) : Key) = .inr (S b)) ↔ a = b := ⟨fun z => S_inj (Sum.inr.inj z), fun z => by rw [z]⟩
theorem mkV_val (ms : Mks) (l : List Nat) : valV (mkV ms) (.inr (S l)) = (markOf ms l).map fun o => V.int ((o : Nat) : Int) := by
  induction ms with
  | nil => rfl
  | cons q r ih =>
    show valV ((.inr (S q.1), .int q.2) :: mkV r) _ = _
    by_cases h : q.1 = l
    · rw [valV_pos (key_iff.mpr h)]
      simp [markOf, List.find?_cons, h]
    · rw [valV_neg (fun z => h (key_iff.mp z)), ih]
      simp [markOf, List.find?_cons, h]
theorem mkV_put (ms : Mks) (l : List Nat) (o : Nat) : putK (mkV ms) (.inr (S l)) (.int ((o : Nat) : Int)) = mkV (putM ms l o) := by
  have e1 : ((mkV ms).any fun kv => decide (kv.1 = (.inr (S l) : Key))) = ms.any fun q => decide (q.1 = l) := by
    unfold mkV
    rw [List.any_map]
    exact List.any_congr rfl fun q => decide_eq_decide.mpr key_iff
  unfold putK putM
  rw [e1]
  split
  · unfold mkV
    rw [List.map_map, List.map_map]
    refine List.map_congr_left fun q _ => ?_
    show (if (.inr (S q.1) : Key) = .inr (S l) then ((.inr (S q.1) : Key), V.int o) else (.inr (S q.1), V.int q.2)) = (fun q : List Nat × Nat => ((.inr (S q.1) : Key), V.int q.2)) (if q.1 = l then (q.1, o) else q)
    by_cases h : q.1 = l
    · rw [if_pos (key_iff.mpr h), if_pos h]
    · rw [if_neg (fun z => h (key_iff.mp z)), if_neg h]
  · unfold mkV
    rw [List.map_append]
    rfl
theorem putM_len (ms : Mks) (l : List Nat) (o : Nat) : (putM ms l o).length ≤ ms.length + 1 := by
  unfold putM
  split
  · simp
  · simp
theorem putM_keys (ms : Mks) (l : List Nat) (o : Nat) : (putM ms l o).map (·.1) = if l ∈ ms.map (·.1) then ms.map (·.1) else ms.map (·.1) ++ [l] := by
  have e : (ms.any fun q => decide (q.1 = l)) = decide (l ∈ ms.map (·.1)) := by
    rw [Bool.eq_iff_iff, List.any_eq_true, decide_eq_true_eq, List.mem_map]
    exact ⟨fun ⟨q, h1, h2⟩ => ⟨q, h1, of_decide_eq_true h2⟩, fun ⟨q, h1, h2⟩ => ⟨q, h1, decide_eq_true h2⟩⟩
  unfold putM
  rw [e]
  by_cases h : l ∈ ms.map (·.1)
  · rw [if_pos (decide_eq_true h), if_pos h, List.map_map]
    refine List.map_congr_left fun q _ => ?_
    show (if q.1 = l then (q.1, o) else q).1 = q.1
    split <;> rfl
  · rw [if_neg (by rw [decide_eq_false h]; decide), if_neg h, List.map_append]
    rfl
structure WfM (s : Sh) : Prop where
  n : (s.marked.map (·.1)).Nodup
  l : s.marked.length ≤ 50
section
variable {K : PySem.W.Frag} {E : WX} {δ : Dl} {P : PX} {N : Dl → Prop} {R : PX} {X : XX} {i j : Nat} {p : Addr} {s : Sh}
/-- self.marked: reached -/
theorem fld_marked {σ : St} {w : Ow} {Hb H : Hp} {Q : VK} (C : ShC K) (sd : SD K w Hb H σ δ) (hi : δ[i]? = some (some (.o p (osh K s)))) (k : ∀ m dx, m ≠ p → H p = some (.ins (He.ga K "Sheet") dx (shF s m)) → H m = some (.dK (mkV s.marked)) → (∀ a, w a = some p ↔ a = p ∨ a = m) → Q (.ref m) H) : tFld K (tVar i) "marked" σ H Q := by
  obtain ⟨u, h1, h2, dx, m, h3, h4, h5, h6⟩ := sd.val i _ hi
  subst h2
  exact ⟨.ref p, h1, p, _, dx, _, _, rfl, h4, C.c, C.n "marked" (by simp [shNames]), rfl, k m dx h3 h4 h5 h6⟩
theorem rp_keys {H : Hp} (ms : Mks) : RpAll K H ((mkV ms).map fun kv => kV kv.1) ((ms.map (·.1)).map Da.str) := by
  induction ms with
  | nil => exact .nil
  | cons q r ih => exact .cons (.str q.1) ih
theorem w_markKeys (C : ShC K) (hi : δ[i]? = some (some (.o p (osh K s)))) (k : P (.d (.lst ((s.marked.map (·.1)).map Da.str))) δ) : W K E (tListKeys (tFld K (tVar i) "marked")) δ P X := fun w σ Hb H sd Q q _ => by
  refine fld_marked C sd hi fun m dx h3 h4 h5 h6 => ⟨m, _, rfl, h5, fun l hl => ?_⟩
  obtain ⟨s2, f2⟩ := sd.new (o := .lst ((mkV s.marked).map fun kv => kV kv.1)) hl
  exact q _ δ _ w _ _ k s2 (.lst upd_same (rp_keys _)) f2
theorem w_markGet {l : List Nat} {o : Nat} (C : ShC K) (hi : δ[i]? = some (some (.o p (osh K s)))) (hj : δ[j]? = some (some (.d (.str l)))) (hm : markOf s.marked l = some o) (k : P (.d (.int ((o : Nat) : Int))) δ) : W K E (tDGet (tFld K (tVar i) "marked") (tVar j)) δ P X := fun w σ Hb H sd Q q _ => by
  refine fld_marked C sd hi fun m dx h3 h4 h5 h6 => ?_
  obtain ⟨v, g1, g2⟩ := sd.val j _ hj
  have g2 : Rp K Hb v (.str l) := g2
  cases g2
  refine ⟨_, g1, m, _, rfl, ?_, q _ δ _ w Hb H k sd (.int _) (Fm.refl _ _ _)⟩
  have := DGet.k (H := H) (a := m) (k := (.inr (S l) : Key)) h5
  rw [mkV_val, hm] at this
  exact this
theorem t_markPut {tv : TE} (C : ShC K) (h : W K E tv δ (fun y δ1 => ∃ (o : Nat) (l : List Nat) (p : Addr) (s : Sh), y = .d (.int ((o : Nat) : Int)) ∧ δ1[i]? = some (some (.o p (osh K s))) ∧ δ1[j]? = some (some (.d (.str l))) ∧ s.marked.length ≤ 1000 ∧ N (δ1.set i (some (.o p (osh K { s with marked := putM s.marked l o }))))) X) : T K E (sDPut (tFld K (tVar i) "marked") (tVar j) tv) δ N R X := fun w σ Hb H D sd n r e => by
  refine h w σ Hb H sd _ (fun y δ1 v w1 Hb1 H1 ⟨o, l, p, s, ey, hi, hj, hz, k⟩ s1 r1 f1 => ?_) (e σ)
  subst ey
  cases r1
  refine fld_marked C s1 hi fun m dx h3 h4 h5 h6 => ?_
  obtain ⟨v, g1, g2⟩ := s1.val j _ hj
  have g2 : Rp K Hb1 v (.str l) := g2
  cases g2
  refine ⟨_, g1, m, _, rfl, DPut.k (k := (.inr (S l) : Key)) h5 (szl (by show (mkV s.marked).length < _; unfold mkV; rw [List.length_map]; omega)), ?_⟩
  rw [mkV_put]
  obtain ⟨s3, f3⟩ := s1.turn0 (A' := osh K { s with marked := putM s.marked l o }) (H' := upd H1 m (.dK (mkV (putM s.marked l o)))) hi (fun a u ha hn => by rw [upd_ne (fun z => hn ((h6 a).mpr (.inr z)))]; exact ha) (fun a ha => by
    by_cases z : a = m
    · subst z
      rw [upd_same]
      exact fun z => nomatch z
    · rw [upd_ne z]
      exact ha) ⟨dx, m, h3, by rw [upd_ne h3.symm]; exact h4, upd_same, h6⟩
  exact n _ _ _ _ _ k s3 (f1.trans f3)
end
/-! ### texts in their order -/
def leC (a b : List Nat) : Prop := PySem.Spec.ltCps b a = false
theorem leC_trans : ∀ {a b c : List Nat}, leC a b → leC b c → leC a c
  | [], _, [], _, _ => rfl
  | [], _, _ :: _, _, _ => rfl
  | _ :: _, [], _, h, _ => by simp [leC, PySem.Spec.ltCps] at h
  | _ :: _, _ :: _, [], _, h => by simp [leC, PySem.Spec.ltCps] at h
  | a :: r, b :: t, c :: u, h1, h2 => by
    unfold leC at *
    simp only [PySem.Spec.ltCps, Bool.or_eq_false_iff, Bool.and_eq_false_iff, decide_eq_false_iff_not, beq_eq_false_iff_ne] at *
    obtain ⟨p1, p2⟩ := h1
    obtain ⟨q1, q2⟩ := h2
    refine ⟨by omega, ?_⟩
    by_cases e : c = a
    · right
      have e1 : b = a := by omega
      have e2 : c = b := by omega
      rcases p2 with z | z
      · exact absurd e1 z
      · rcases q2 with y | y
        · exact absurd e2 y
        · exact leC_trans (a := r) (b := t) (c := u) z y
    · exact .inl e
theorem leC_anti : ∀ {a b : List Nat}, leC a b → leC b a → a = b
  | [], [], _, _ => rfl
  | [], _ :: _, _, h => by simp [leC, PySem.Spec.ltCps] at h
  | _ :: _, [], h, _ => by simp [leC, PySem.Spec.ltCps] at h
  | a :: r, b :: t, h1, h2 => by
    unfold leC at *
    simp only [PySem.Spec.ltCps, Bool.or_eq_false_iff, Bool.and_eq_false_iff, decide_eq_false_iff_not, beq_eq_false_iff_ne] at *
    obtain ⟨p1, p2⟩ := h1
    obtain ⟨q1, q2⟩ := h2
    have e : a = b := by omega
    subst e
    rcases p2 with z | z
    · exact absurd rfl z
    · rcases q2 with y | y
      · exact absurd rfl y
      · rw [leC_anti (a := r) (b := t) z y]
theorem rising_pw : ∀ (ys : List Str) (x : Str), PyProof.Rows.risingS x ys = true → (x :: ys).Pairwise fun a b => leC a.cps.toList b.cps.toList
  | [], x, _ => by simp
  | y :: r, x, h => by
    have h : (!PySem.Spec.ltCps y.cps.toList x.cps.toList && PyProof.Rows.risingS y r) = true := h
    rw [Bool.and_eq_true] at h
    have ih := rising_pw r y h.2
    have hxy : leC x.cps.toList y.cps.toList := by simpa [leC] using h.1
    refine List.pairwise_cons.mpr ⟨fun z hz => ?_, ih⟩
    rcases List.mem_cons.mp hz with rfl | hz
    · exact hxy
    · exact leC_trans hxy ((List.pairwise_cons.mp ih).1 z hz)
theorem sortedS_pw {ys : List Str} (h : PyProof.Rows.sortedS ys = true) : (ys.map fun z => z.cps.toList).Pairwise leC := by
  rw [List.pairwise_map]
  cases ys with
  | nil => exact .nil
  | cons x r => exact rising_pw r x h
open Classical in
noncomputable def srtK (ks : List (List Nat)) : List (List Nat) := if h : ∃ ys : List (List Nat), ys.Perm ks ∧ ys.Pairwise leC then h.choose else ks
theorem srtK_eq {ks ys : List (List Nat)} (h1 : ys.Perm ks) (h2 : ys.Pairwise leC) : srtK ks = ys := by
  unfold srtK
  have hx : ∃ ys : List (List Nat), ys.Perm ks ∧ ys.Pairwise leC := ⟨ys, h1, h2⟩
  rw [dif_pos hx]
  exact List.Perm.eq_of_pairwise (fun a b _ _ h3 h4 => leC_anti h3 h4) hx.choose_spec.2 h2 (hx.choose_spec.1.trans h1.symm)
theorem map_S_tl (ys : List Str) : (ys.map fun z => z.cps.toList).map S = ys := by
  rw [List.map_map]
  have : (S ∘ fun z : Str => z.cps.toList) = id := funext fun z => (S_of z).symm
  rw [this, List.map_id]
section
variable {K : PySem.W.Frag} {E : WX} {δ : Dl} {P : PX} {N : Dl → Prop} {R : PX} {X : XX} {i j : Nat} {p : Addr} {s : Sh}
theorem sort_run {ms : Mks} {m : Addr} {w : Ow} {σ : St} {Hb H : Hp} {Q : VK} (sd : SD K w Hb H σ δ) (hl : ms.length ≤ 50) (h5 : H m = some (.dK (mkV ms))) (q : ∀ l, H l = none → ∀ Hb', Hb' = upd Hb l (.lst (((srtK (ms.map (·.1))).map S).map V.str)) → Q (.ref l) (upd H l (.lst (((srtK (ms.map (·.1))).map S).map V.str)))) :
    ∃ (d : Addr) (kvs : List (Key × V)) (ks : List Str), V.ref m = .ref d ∧ H d = some (.dK kvs) ∧ kvs.map (·.1) = ks.map Sum.inr ∧ ks.length < 64 ∧ ∀ ys p, ys.Perm ks → PyProof.Rows.sortedS ys = true → H p = none → Q (.ref p) (upd H p (.lst (ys.map V.str))) := by
  refine ⟨m, mkV ms, (ms.map (·.1)).map S, rfl, h5, ?_, by rw [List.length_map, List.length_map]; omega, fun ys l hp hs hn => ?_⟩
  · unfold mkV
    rw [List.map_map, List.map_map, List.map_map]
    rfl
  · have hp2 : (ys.map fun z => z.cps.toList).Perm (ms.map (·.1)) := by
      have := hp.map (fun z : Str => z.cps.toList)
      rw [List.map_map] at this
      have e : ((fun z : Str => z.cps.toList) ∘ S) = id := rfl
      rw [e, List.map_id] at this
      exact this
    have e := srtK_eq hp2 (sortedS_pw hs)
    have e2 := q l hn _ rfl
    rw [e, map_S_tl] at e2
    exact e2
theorem w_markSort (C : ShC K) (hi : δ[i]? = some (some (.o p (osh K s)))) (wm : s.marked.length ≤ 50) (k : P (.d (.lst ((srtK (s.marked.map (·.1))).map Da.str))) δ) : W K E (tSortKeys (tFld K (tVar i) "marked")) δ P X := fun w σ Hb H sd Q q _ => by
  refine fld_marked C sd hi fun m dx h3 h4 h5 h6 => sort_run sd wm h5 fun l hl _ _ => ?_
  obtain ⟨s2, f2⟩ := sd.new (o := .lst (((srtK (s.marked.map (·.1))).map S).map V.str)) hl
  exact q _ δ _ w _ _ k s2 (.lst upd_same (rpAll_strs _)) f2
end
end Cr

namespace Cr
open PySem L2
local macro_rules | `(tactic| walk_at "x") => `(tactic| first | with_reducible refine t_seq ?_ | with_reducible refine t_ret ?_ | with_reducible refine t_set ?_ | with_reducible refine t_drop ?_ | with_reducible refine t_if ?_ | with_reducible refine t_next ?_ | with_reducible refine t_raise ?_ | with_reducible refine t_asg ?_ | with_reducible refine t_retN ?_ | with_reducible refine w_op ?_ | ((with_reducible refine' w_var ?h ?_); (case h => rfl)) | ((with_reducible refine' w_own ?h ?_); (case h => rfl)) | with_reducible refine w_int ?_ | ((with_reducible refine' w_k ?h ?_); (case h => decide +kernel)) | with_reducible refine w_bl ?_ | with_reducible refine w_non ?_ | with_reducible refine w_if ?_ | with_reducible refine w_andV ?_ | with_reducible refine w_orV ?_ | with_reducible refine w_notV ?_ | with_reducible refine w_tup ?_ | with_reducible refine w_lst ?_ | with_reducible refine w_cb ?_ | with_reducible refine w_chain ?_ | with_reducible refine w_slS ?_ | with_reducible refine w_slL ?_ | with_reducible refine w_find1 ?_ | with_reducible refine w_find2 ?_ | with_reducible refine w_rfind1 ?_ | with_reducible refine w_rfind3 ?_ | with_reducible refine w_neg ?_ | with_reducible refine w_ref ?_ | with_reducible refine w_ty ?_ | with_reducible refine wt_test ?_ | with_reducible refine wt_B ?_ | with_reducible refine wt_and ?_ | with_reducible refine wt_or ?_ | with_reducible refine wt_not ?_ | with_reducible refine wt_yes ?_ | with_reducible refine wd_nil ?_ | with_reducible refine wd_cons ?_ | with_reducible refine wa_nil ?_ | with_reducible refine wa_cons ?_ | with_reducible refine wo_none ?_ | with_reducible refine wo_some ?_ | with_reducible refine rd_I0i ?_ | with_reducible refine rd_I0b ?_ | with_reducible refine rd_eqI ?_ | with_reducible refine rd_neI ?_ | with_reducible refine rd_eqS ?_ | with_reducible refine rd_neS ?_ | with_reducible refine rd_isN ?_ | with_reducible refine rd_notN ?_ | with_reducible refine rd_inSign ?_ | with_reducible refine cd_lenL ?_ | ((with_reducible refine' cd_lenS ?h ?_); (case h => first | assumption | omega)) | with_reducible refine cd_lenT ?_ | with_reducible refine cd_lenR ?_ | with_reducible refine cd_abs ?_ | with_reducible refine cd_max2 ?_ | with_reducible refine cd_min2 ?_ | with_reducible refine cd_intB ?_ | with_reducible refine cd_ord ?_ | with_reducible refine g_name ?_ | with_reducible refine ⟨_, rfl, ?_⟩ | with_reducible refine rd_leS ?_ | ((with_reducible refine' w_now ?C ?h ?_); (case C => assumption); (case h => rfl)) | ((with_reducible refine' w_width ?C ?h ?_); (case C => assumption); (case h => rfl)) | ((with_reducible refine' w_height ?C ?h ?_); (case C => assumption); (case h => rfl)) | ((with_reducible refine' w_caret ?C ?h ?_); (case C => assumption); (case h => rfl)) | ((with_reducible refine' w_is_back ?C ?h ?_); (case C => assumption); (case h => rfl)) | ((with_reducible refine' w_anchor ?C ?h ?_); (case C => assumption); (case h => rfl)) | ((with_reducible refine' w_wish ?C ?h ?_); (case C => assumption); (case h => rfl)) | ((with_reducible refine' w_first ?C ?h ?_); (case C => assumption); (case h => rfl)) | ((with_reducible refine' w_mText ?h ?R ?C ?wf ?e ?_); (case h => rfl); (case R => assumption); (case C => assumption); (case wf => assumption); (case e => rfl)) | ((with_reducible refine' w_mRows ?h ?R ?C ?wf ?e ?_); (case h => rfl); (case R => assumption); (case C => assumption); (case wf => assumption); (case e => rfl)) | ((with_reducible refine' w_mAt ?h ?R ?C ?wf ?e ?_); (case h => rfl); (case R => assumption); (case C => assumption); (case wf => assumption); (case e => rfl)) | ((with_reducible refine' w_mChosen ?h ?R ?C ?wf ?e ?_); (case h => rfl); (case R => assumption); (case C => assumption); (case wf => assumption); (case e => rfl)) | ((with_reducible refine' w_mChosenT ?h ?R ?C ?wf ?e ?_); (case h => rfl); (case R => assumption); (case C => assumption); (case wf => assumption); (case e => rfl)) | ((with_reducible refine' w_mView ?h ?R ?C ?wf ?e ?_); (case h => rfl); (case R => assumption); (case C => assumption); (case wf => assumption); (case e => rfl)))
local macro_rules | `(tactic| walk_at "xs") => `(tactic| repeat (first | with_reducible refine t_seq ?_ | with_reducible refine t_ret ?_ | with_reducible refine t_set ?_ | with_reducible refine t_drop ?_ | with_reducible refine t_if ?_ | with_reducible refine t_next ?_ | with_reducible refine t_raise ?_ | with_reducible refine t_asg ?_ | with_reducible refine t_retN ?_ | with_reducible refine w_op ?_ | ((with_reducible refine' w_var ?h ?_); (case h => rfl)) | ((with_reducible refine' w_own ?h ?_); (case h => rfl)) | with_reducible refine w_int ?_ | ((with_reducible refine' w_k ?h ?_); (case h => decide +kernel)) | with_reducible refine w_bl ?_ | with_reducible refine w_non ?_ | with_reducible refine w_if ?_ | with_reducible refine w_andV ?_ | with_reducible refine w_orV ?_ | with_reducible refine w_notV ?_ | with_reducible refine w_tup ?_ | with_reducible refine w_lst ?_ | with_reducible refine w_cb ?_ | with_reducible refine w_chain ?_ | with_reducible refine w_slS ?_ | with_reducible refine w_slL ?_ | with_reducible refine w_find1 ?_ | with_reducible refine w_find2 ?_ | with_reducible refine w_rfind1 ?_ | with_reducible refine w_rfind3 ?_ | with_reducible refine w_neg ?_ | with_reducible refine w_ref ?_ | with_reducible refine w_ty ?_ | with_reducible refine wt_test ?_ | with_reducible refine wt_B ?_ | with_reducible refine wt_and ?_ | with_reducible refine wt_or ?_ | with_reducible refine wt_not ?_ | with_reducible refine wt_yes ?_ | with_reducible refine wd_nil ?_ | with_reducible refine wd_cons ?_ | with_reducible refine wa_nil ?_ | with_reducible refine wa_cons ?_ | with_reducible refine wo_none ?_ | with_reducible refine wo_some ?_ | with_reducible refine rd_I0i ?_ | with_reducible refine rd_I0b ?_ | with_reducible refine rd_eqI ?_ | with_reducible refine rd_neI ?_ | with_reducible refine rd_eqS ?_ | with_reducible refine rd_neS ?_ | with_reducible refine rd_isN ?_ | with_reducible refine rd_notN ?_ | with_reducible refine rd_inSign ?_ | with_reducible refine cd_lenL ?_ | ((with_reducible refine' cd_lenS ?h ?_); (case h => first | assumption | omega)) | with_reducible refine cd_lenT ?_ | with_reducible refine cd_lenR ?_ | with_reducible refine cd_abs ?_ | with_reducible refine cd_max2 ?_ | with_reducible refine cd_min2 ?_ | with_reducible refine cd_intB ?_ | with_reducible refine cd_ord ?_ | with_reducible refine g_name ?_ | with_reducible refine ⟨_, rfl, ?_⟩ | with_reducible refine rd_leS ?_ | ((with_reducible refine' w_now ?C ?h ?_); (case C => assumption); (case h => rfl)) | ((with_reducible refine' w_width ?C ?h ?_); (case C => assumption); (case h => rfl)) | ((with_reducible refine' w_height ?C ?h ?_); (case C => assumption); (case h => rfl)) | ((with_reducible refine' w_caret ?C ?h ?_); (case C => assumption); (case h => rfl)) | ((with_reducible refine' w_is_back ?C ?h ?_); (case C => assumption); (case h => rfl)) | ((with_reducible refine' w_anchor ?C ?h ?_); (case C => assumption); (case h => rfl)) | ((with_reducible refine' w_wish ?C ?h ?_); (case C => assumption); (case h => rfl)) | ((with_reducible refine' w_first ?C ?h ?_); (case C => assumption); (case h => rfl)) | ((with_reducible refine' w_mText ?h ?R ?C ?wf ?e ?_); (case h => rfl); (case R => assumption); (case C => assumption); (case wf => assumption); (case e => rfl)) | ((with_reducible refine' w_mRows ?h ?R ?C ?wf ?e ?_); (case h => rfl); (case R => assumption); (case C => assumption); (case wf => assumption); (case e => rfl)) | ((with_reducible refine' w_mAt ?h ?R ?C ?wf ?e ?_); (case h => rfl); (case R => assumption); (case C => assumption); (case wf => assumption); (case e => rfl)) | ((with_reducible refine' w_mChosen ?h ?R ?C ?wf ?e ?_); (case h => rfl); (case R => assumption); (case C => assumption); (case wf => assumption); (case e => rfl)) | ((with_reducible refine' w_mChosenT ?h ?R ?C ?wf ?e ?_); (case h => rfl); (case R => assumption); (case C => assumption); (case wf => assumption); (case e => rfl)) | ((with_reducible refine' w_mView ?h ?R ?C ?wf ?e ?_); (case h => rfl); (case R => assumption); (case C => assumption); (case wf => assumption); (case e => rfl)) | simp only [List.set_cons_succ, List.set_cons_zero]))
def carN (o f l m : Nat) : Nat := if o ≤ f then o else if o < l then f + m else o - (l - f) + m
def f_carried (K : PySem.W.Frag) : FP := fun ds R _ => ∃ (o f l m : Nat), ds = [.int o, .int f, .int l, .int m] ∧ f ≤ l ∧ R (.int ((carN o f l m : Nat) : Int))
abbrev sp_carried (K : PySem.W.Frag) : Sp := SpOf K (PF (f_carried K))
def t_carried (K : PySem.W.Frag) (E : XK) : TS := (tSeq (tIfS (tTest (tOp rLe' (tVar 0) (tVar 1))) (tRet (tVar 0)) tNext)
  (tRet (tIf (tTest (tOp rLt' (tVar 0) (tVar 2))) (tOp rPlus (tVar 1) (tVar 3)) (tOp rPlus (tOp rMinus (tVar 0) (tOp rMinus (tVar 2) (tVar 1))) (tVar 3)))))
theorem len_f_carried {K : PySem.W.Frag} : ∀ ds R X, f_carried K ds R X → ds.length = 4 := by
  rintro ds R X ⟨_, _, _, _, rfl, _⟩
  rfl
theorem len_carried {K : PySem.W.Frag} : ∀ vs H Q E, sp_carried K vs H Q E → vs.length = 4 := fun _ _ _ _ h => spOf_len (pf_len len_f_carried) h
theorem pure_carried {K : PySem.W.Frag} {vs : List V} {H : Hp} {Q : VK} {E : XK} (h : sp_carried K vs H Q E) : t_carried K E { nx := fun _ H' => Q .non H', rt := Q } (L2.start ["offset", "first", "last", "many"] vs) H := by
  refine bodyP (ts := t_carried K) 4 0 rfl len_f_carried (fun ds R X ⟨o, f, l, m, e, hfl, hk⟩ => ?_) h
  subst e
  show T K _ (t_carried K E) [some (.d (.int o)), some (.d (.int f)), some (.d (.int l)), some (.d (.int m))] _ _ _
  unfold t_carried
  unfold carN at hk
  walk_at "xs"
  refine ⟨fun h1 => ?_, fun h1 => ?_⟩
  · have h1 := of_decide_eq_true h1
    rw [if_pos (by omega)] at hk
    walk_at "xs"
    exact hk
  · have h1 := of_decide_eq_false h1
    rw [if_neg (by omega)] at hk
    walk_at "xs"
    refine ⟨fun h2 => ?_, fun h2 => ?_⟩
    · have h2 := of_decide_eq_true h2
      rw [if_pos (by omega)] at hk
      walk_at "xs"
      exact hk
    · have h2 := of_decide_eq_false h2
      rw [if_neg (by omega)] at hk
      walk_at "xs"
      have e1 : (o : Int) - ((l : Int) - (f : Int)) + (m : Int) = ((o - (l - f) + m : Nat) : Int) := by omega
      rw [e1]
      exact hk
def carS (s : Sh) (f l : Nat) (new : List Nat) : Sh := { s with now := s.now.take f ++ new ++ s.now.drop l, marked := s.marked.map fun q => (q.1, carN q.2 f l new.length), wish := none }
def f_Sheet_set_between (K : PySem.W.Frag) : FS := fun ys R _ => ∃ (p : Addr) (s : Sh) (f l : Nat) (new : List Nat), ys = [.o p (osh K s), .d (.int f), .d (.int l), .d (.str new)] ∧ ShC K ∧ WfM s ∧ f ≤ l ∧ s.now.length ≤ 1000000 ∧ new.length ≤ 1000000 ∧ R .non [some (.o p (osh K (carS s f l new))), none, none, none]
abbrev sp_Sheet_set_between (K : PySem.W.Frag) : Sp := SpOf K (f_Sheet_set_between K)
def t_Sheet_set_between (K : PySem.W.Frag) (E : XK) : TS := (tSeq (sFld K (tVar 0) (tOp rAddStr (tOp rAddStr (tSl rSlS (tFld K (tVar 0) "now") tNoPart (tPart (tVar 1))) (tVar 3)) (tSl rSlS (tFld K (tVar 0) "now") (tPart (tVar 2)) tNoPart)) "now")
  (tSeq (tFor (iList K (tListKeys (tFld K (tVar 0) "marked"))) (gName 4) (sDPut (tFld K (tVar 0) "marked") (tVar 4) (tCall (sp_carried K) [] L2.E0 (tCons (tDGet (tFld K (tVar 0) "marked") (tVar 4)) (tCons (tVar 1) (tCons (tVar 2) (tCons (tCB (rLen K) (tCons (tVar 3) tNil)) tNil)))))))
  (sFld K (tVar 0) (tC .non) "wish")))
theorem len_f_Sheet_set_between {K : PySem.W.Frag} : ∀ ds R X, f_Sheet_set_between K ds R X → ds.length = 4 := by
  rintro ds R X ⟨_, _, _, _, _, rfl, _⟩
  rfl
theorem len_Sheet_set_between {K : PySem.W.Frag} : ∀ vs H Q E, sp_Sheet_set_between K vs H Q E → vs.length = 4 := fun _ _ _ _ h => spOf_len len_f_Sheet_set_between h
theorem cl_between {K : PySem.W.Frag} {δ : Dl} {P : PX} {X : XX} {p : Addr} {s : Sh} {i f l : Nat} {new : List Nat} (hi : δ[i]? = some (some (.o p (osh K s)))) (C : ShC K) (wm : WfM s) (h1 : f ≤ l) (h2 : s.now.length ≤ 1000000) (h3 : new.length ≤ 1000000) (k : P (.d .non) (δ.set i (some (.o p (osh K (carS s f l new)))))) : Cl (f_Sheet_set_between K) [.a p, .d (.int f), .d (.int l), .d (.str new)] δ P X :=
  ⟨_, [some i, none, none, none], .o hi (.d (.d (.d .nil))), uq4, p, s, f, l, new, rfl, C, wm, h1, h2, h3, k⟩
theorem mark_at : ∀ {ms : Mks} {i : Nat} {q : List Nat × Nat}, (ms.map (·.1)).Nodup → ms[i]? = some q → markOf ms q.1 = some q.2
  | [], _, _, _, h => by simp at h
  | x :: r, 0, q, _, h => by
    simp at h
    subst h
    simp [markOf]
  | x :: r, i + 1, q, hn, h => by
    have h : r[i]? = some q := by simpa using h
    rw [List.map_cons, List.nodup_cons] at hn
    have hne : ¬ x.1 = q.1 := fun z => hn.1 (by rw [z]; exact List.mem_map_of_mem (List.mem_of_getElem? h))
    have := mark_at hn.2 h
    simpa [markOf, List.find?_cons, hne] using this
theorem nodup_ix {α : Type} : ∀ {l : List α} {i j : Nat} {a : α}, l.Nodup → l[i]? = some a → l[j]? = some a → i = j
  | [], _, _, _, _, h, _ => by simp at h
  | x :: r, 0, 0, _, _, _, _ => rfl
  | x :: r, 0, j + 1, a, hn, h1, h2 => by
    simp at h1 h2
    subst h1
    exact absurd (List.mem_of_getElem? h2) (List.nodup_cons.mp hn).1
  | x :: r, i + 1, 0, a, hn, h1, h2 => by
    simp at h1 h2
    subst h2
    exact absurd (List.mem_of_getElem? h1) (List.nodup_cons.mp hn).1
  | x :: r, i + 1, j + 1, a, hn, h1, h2 => by
    exact congrArg (· + 1) (nodup_ix (a := a) (List.nodup_cons.mp hn).2 (by simpa using h1) (by simpa using h2))
theorem putM_at {ms : Mks} {i : Nat} {q : List Nat × Nat} (hn : (ms.map (·.1)).Nodup) (h : ms[i]? = some q) (o : Nat) : putM ms q.1 o = ms.set i (q.1, o) := by
  have ha : (ms.any fun x => decide (x.1 = q.1)) = true := List.any_eq_true.mpr ⟨q, List.mem_of_getElem? h, decide_eq_true rfl⟩
  unfold putM
  rw [if_pos ha]
  refine List.ext_getElem? fun j => ?_
  rw [List.getElem?_map, List.getElem?_set]
  by_cases e : i = j
  · subst e
    have hl := (List.getElem?_eq_some_iff.mp h).1
    rw [if_pos rfl, if_pos hl, h]
    simp
  · rw [if_neg e]
    cases hj : ms[j]? with
    | none => rfl
    | some x =>
      have hne : ¬ x.1 = q.1 := fun z => by
        have h1 : (ms.map (·.1))[j]? = some x.1 := by rw [List.getElem?_map, hj]; rfl
        have h2 : (ms.map (·.1))[i]? = some q.1 := by rw [List.getElem?_map, h]; rfl
        have hlj := (List.getElem?_eq_some_iff.mp h1).1
        have hli := (List.getElem?_eq_some_iff.mp h2).1
        have g1 := (List.getElem?_eq_some_iff.mp h1).2
        have g2 := (List.getElem?_eq_some_iff.mp h2).2
        exact e (nodup_ix hn h2 (by rw [h1, z]))
      simp [hne]
theorem pure_Sheet_set_between {K : PySem.W.Frag} {vs : List V} {H : Hp} {Q : VK} {E : XK} (h : sp_Sheet_set_between K vs H Q E) : t_Sheet_set_between K E { nx := fun _ H' => Q .non H', rt := Q } (L2.start ["self", "first", "last", "new", "name"] vs) H := by
  refine body (ts := t_Sheet_set_between K) 4 1 rfl len_f_Sheet_set_between (fun ds R X ⟨p, s, f, l, new, e, C, wm, hfl, hl, hnl, hk⟩ => ?_) h
  subst e
  show T K _ (t_Sheet_set_between K E) [some (.o p (osh K s)), some (.d (.int f)), some (.d (.int l)), some (.d (.str new)), none] _ _ _
  unfold t_Sheet_set_between
  refine t_seq (t_now C ?_)
  walk_at "xs"
  refine ⟨by omega, ?_⟩
  walk_at "xs"
  rw [cut_to]
  refine rd_addS (by rw [List.length_take]; omega) ?_
  walk_at "xs"
  refine ⟨by omega, ?_⟩
  walk_at "xs"
  rw [cut_from]
  refine rd_addS (by rw [List.length_append, List.length_take, List.length_drop]; omega) ?_
  refine ⟨_, p, s, rfl, rfl, ?_⟩
  generalize hnow : s.now.take f ++ new ++ s.now.drop l = nw
  have hk : R .non [some (.o p (osh K { s with now := nw, marked := s.marked.map fun q => (q.1, carN q.2 f l new.length), wish := none })), none, none, none] := by
    subst hnow
    exact hk
  refine t_seq (t_for (wi_list (w_markKeys C rfl ⟨_, rfl, ?_⟩)))
  refine ⟨fun i δ => ∃ x : Option Dx, δ = [some (.o p (osh K { s with now := nw, marked := (s.marked.take i).map (fun q => (q.1, carN q.2 f l new.length)) ++ s.marked.drop i })), some (.d (.int f)), some (.d (.int l)), some (.d (.str new)), x], ⟨none, by simp⟩, ?_, ?_⟩
  · rintro i d δ hd ⟨x, rfl⟩
    obtain ⟨q, hq, rfl⟩ : ∃ q : List Nat × Nat, s.marked[i]? = some q ∧ d = .str q.1 := by
      rw [List.getElem?_map, List.getElem?_map] at hd
      cases e : s.marked[i]? with
      | none => rw [e] at hd; exact nomatch hd
      | some q => rw [e] at hd; exact ⟨q, rfl, by cases hd; rfl⟩
    have hil := (List.getElem?_eq_some_iff.mp hq).1
    generalize hms : (s.marked.take i).map (fun q : List Nat × Nat => (q.1, carN q.2 f l new.length)) ++ s.marked.drop i = ms
    have hkeys : ms.map (·.1) = s.marked.map (·.1) := by
      rw [← hms, List.map_append, List.map_map]
      have : ((fun q : List Nat × Nat => q.1) ∘ fun q : List Nat × Nat => (q.1, carN q.2 f l new.length)) = fun q => q.1 := rfl
      rw [this, ← List.map_append, List.take_append_drop]
    have hnd : (ms.map (·.1)).Nodup := by rw [hkeys]; exact wm.n
    have hlen : ms.length = s.marked.length := by
      have := congrArg List.length hkeys
      simpa using this
    have hat : ms[i]? = some q := by
      rw [← hms, List.getElem?_append_right (by rw [List.length_map, List.length_take]; omega), List.length_map, List.length_take, List.getElem?_drop]
      have : i + (i - min i s.marked.length) = i := by omega
      rw [this]
      exact hq
    refine g_name ?_
    refine t_markPut C ?_
    refine w_fn ?_
    refine wd_cons (w_markGet C rfl rfl (mark_at hnd hat) ⟨_, rfl, ?_⟩)
    walk_at "xs"
    refine ⟨q.2, f, l, new.length, rfl, hfl, ?_⟩
    refine ⟨_, q.1, p, { s with now := nw, marked := ms }, rfl, rfl, rfl, by show ms.length ≤ 1000; have := wm.l; omega, ?_⟩
    refine ⟨some (.d (.str q.1)), ?_⟩
    have e1 : putM ms q.1 (carN q.2 f l new.length) = (s.marked.take (i + 1)).map (fun q => (q.1, carN q.2 f l new.length)) ++ s.marked.drop (i + 1) := by
      rw [putM_at hnd hat, ← hms]
      rw [List.set_append_right _ _ (by rw [List.length_map, List.length_take]; omega), List.length_map, List.length_take]
      have e2 : i - min i s.marked.length = 0 := by omega
      rw [e2, List.take_succ, hq, List.map_append, List.append_assoc]
      congr 1
      rw [List.drop_eq_getElem_cons hil]
      rfl
    show _ = [some (Dx.o p (osh K { s with now := nw, marked := (s.marked.take (i + 1)).map (fun q => (q.1, carN q.2 f l new.length)) ++ s.marked.drop (i + 1) })), _, _, _, _]
    rw [← e1]
  · rintro δ ⟨x, rfl⟩
    have e1 : (s.marked.take ((s.marked.map (·.1)).map Da.str).length).map (fun q => (q.1, carN q.2 f l new.length)) ++ s.marked.drop ((s.marked.map (·.1)).map Da.str).length = s.marked.map fun q => (q.1, carN q.2 f l new.length) := by
      rw [List.length_map, List.length_map, List.take_length, List.drop_length, List.append_nil]
    rw [e1]
    refine t_wish C (w_non ⟨none, p, _, rfl, rfl, hk, rfl, trivial⟩)
theorem carS_wm {s : Sh} (h : WfM s) (f l : Nat) (new : List Nat) : WfM (carS s f l new) := ⟨by
  show ((s.marked.map fun q => (q.1, carN q.2 f l new.length)).map (·.1)).Nodup
  rw [List.map_map]
  exact h.n, by
  show (s.marked.map _).length ≤ 50
  rw [List.length_map]
  exact h.l⟩
def f_Sheet_change (K : PySem.W.Frag) : FS := fun ys R X => ∃ (p : Addr) (s : Sh) (f l : Nat) (new : List Nat), ys = [.o p (osh K s), .d (.int f), .d (.int l), .d (.str new)] ∧ ShC K ∧ WfM s ∧ f ≤ l ∧ s.now.length ≤ 1000000 ∧ new.length ≤ 1000000 ∧ (isText (carS s f l new).now = false → X "BadText" [some (.o p (osh K s)), none, none, none]) ∧ (isText (carS s f l new).now = true → R .non [some (.o p (osh K (carS s f l new))), none, none, none])
abbrev sp_Sheet_change (K : PySem.W.Frag) : Sp := SpOf K (f_Sheet_change K)
def t_Sheet_change (K : PySem.W.Frag) (E : XK) : TS := (tSeq (tIfS (tNot (tB (tCall (sp_is_text K) [] L2.E0 (tCons (tOp rAddStr (tOp rAddStr (tSl rSlS (tFld K (tVar 0) "now") tNoPart (tPart (tVar 1))) (tVar 3)) (tSl rSlS (tFld K (tVar 0) "now") (tPart (tVar 2)) tNoPart)) tNil)))) (tRz E (He.ga K "BadText")) tNext)
  (tDrop (tMeth (He.ga K "Sheet") "set_between" (sp_Sheet_set_between K) [] L2.E0 (tVar 0) (tCons (tVar 1) (tCons (tVar 2) (tCons (tVar 3) tNil))))))
theorem len_f_Sheet_change {K : PySem.W.Frag} : ∀ ds R X, f_Sheet_change K ds R X → ds.length = 4 := by
  rintro ds R X ⟨_, _, _, _, _, rfl, _⟩
  rfl
theorem len_Sheet_change {K : PySem.W.Frag} : ∀ vs H Q E, sp_Sheet_change K vs H Q E → vs.length = 4 := fun _ _ _ _ h => spOf_len len_f_Sheet_change h
theorem cl_change {K : PySem.W.Frag} {δ : Dl} {P : PX} {X : XX} {p : Addr} {s : Sh} {i f l : Nat} {new : List Nat} (hi : δ[i]? = some (some (.o p (osh K s)))) (C : ShC K) (wm : WfM s) (h1 : f ≤ l) (h2 : s.now.length ≤ 1000000) (h3 : new.length ≤ 1000000) (k1 : isText (carS s f l new).now = false → X "BadText" (δ.set i (some (.o p (osh K s))))) (k2 : isText (carS s f l new).now = true → P (.d .non) (δ.set i (some (.o p (osh K (carS s f l new)))))) : Cl (f_Sheet_change K) [.a p, .d (.int f), .d (.int l), .d (.str new)] δ P X :=
  ⟨_, [some i, none, none, none], .o hi (.d (.d (.d .nil))), uq4, p, s, f, l, new, rfl, C, wm, h1, h2, h3, k1, k2⟩
theorem pure_Sheet_change {K : PySem.W.Frag} {vs : List V} {H : Hp} {Q : VK} {E : XK} (h : sp_Sheet_change K vs H Q E) : t_Sheet_change K E { nx := fun _ H' => Q .non H', rt := Q } (L2.start ["self", "first", "last", "new"] vs) H := by
  refine body (ts := t_Sheet_change K) 4 0 rfl len_f_Sheet_change (fun ds R X ⟨p, s, f, l, new, e, C, wm, hfl, hl, hnl, k1, k2⟩ => ?_) h
  subst e
  show T K _ (t_Sheet_change K E) [some (.o p (osh K s)), some (.d (.int f)), some (.d (.int l)), some (.d (.str new))] _ _ _
  unfold t_Sheet_change
  refine t_seq (t_if (wt_not (wt_B (w_fn (wd_cons ?_)))))
  walk_at "xs"
  refine ⟨by omega, ?_⟩
  walk_at "xs"
  rw [cut_to]
  refine rd_addS (by rw [List.length_take]; omega) ?_
  walk_at "xs"
  refine ⟨by omega, ?_⟩
  walk_at "xs"
  rw [cut_from]
  refine rd_addS (by rw [List.length_append, List.length_take, List.length_drop]; omega) ⟨_, rfl, ?_⟩
  walk_at "xs"
  refine ⟨_, rfl, by rw [List.length_append, List.length_append, List.length_take, List.length_drop]; omega, _, rfl, fun hb => ?_, fun hb => ?_⟩
  · exact t_raise ⟨k1 (by show isText (s.now.take f ++ new ++ s.now.drop l) = false; simpa using hb), rfl, trivial⟩
  · have hk := k2 (by show isText (s.now.take f ++ new ++ s.now.drop l) = true; simpa using hb)
    refine t_next (t_drop (w_mV rfl (by decide) ?_))
    walk_at "xs"
    exact cl_between (i := 0) rfl C wm hfl hl hnl ⟨hk, rfl, trivial⟩
end Cr

namespace Cr
open PySem L2
local macro_rules | `(tactic| walk_at "x") => `(tactic| first | with_reducible refine t_seq ?_ | with_reducible refine t_ret ?_ | with_reducible refine t_set ?_ | with_reducible refine t_drop ?_ | with_reducible refine t_if ?_ | with_reducible refine t_next ?_ | with_reducible refine t_raise ?_ | with_reducible refine t_asg ?_ | with_reducible refine t_retN ?_ | with_reducible refine w_op ?_ | ((with_reducible refine' w_var ?h ?_); (case h => rfl)) | ((with_reducible refine' w_own ?h ?_); (case h => rfl)) | with_reducible refine w_int ?_ | ((with_reducible refine' w_k ?h ?_); (case h => decide +kernel)) | with_reducible refine w_bl ?_ | with_reducible refine w_non ?_ | with_reducible refine w_if ?_ | with_reducible refine w_andV ?_ | with_reducible refine w_orV ?_ | with_reducible refine w_notV ?_ | with_reducible refine w_tup ?_ | with_reducible refine w_lst ?_ | with_reducible refine w_cb ?_ | with_reducible refine w_chain ?_ | with_reducible refine w_slS ?_ | with_reducible refine w_slL ?_ | with_reducible refine w_find1 ?_ | with_reducible refine w_find2 ?_ | with_reducible refine w_rfind1 ?_ | with_reducible refine w_rfind3 ?_ | with_reducible refine w_neg ?_ | with_reducible refine w_ref ?_ | with_reducible refine w_ty ?_ | with_reducible refine wt_test ?_ | with_reducible refine wt_B ?_ | with_reducible refine wt_and ?_ | with_reducible refine wt_or ?_ | with_reducible refine wt_not ?_ | with_reducible refine wt_yes ?_ | with_reducible refine wd_nil ?_ | with_reducible refine wd_cons ?_ | with_reducible refine wa_nil ?_ | with_reducible refine wa_cons ?_ | with_reducible refine wo_none ?_ | with_reducible refine wo_some ?_ | with_reducible refine rd_I0i ?_ | with_reducible refine rd_I0b ?_ | with_reducible refine rd_eqI ?_ | with_reducible refine rd_neI ?_ | with_reducible refine rd_eqS ?_ | with_reducible refine rd_neS ?_ | with_reducible refine rd_isN ?_ | with_reducible refine rd_notN ?_ | with_reducible refine rd_inSign ?_ | with_reducible refine cd_lenL ?_ | ((with_reducible refine' cd_lenS ?h ?_); (case h => first | assumption | omega)) | with_reducible refine cd_lenT ?_ | with_reducible refine cd_lenR ?_ | with_reducible refine cd_abs ?_ | with_reducible refine cd_max2 ?_ | with_reducible refine cd_min2 ?_ | with_reducible refine cd_intB ?_ | with_reducible refine cd_ord ?_ | with_reducible refine g_name ?_ | with_reducible refine ⟨_, rfl, ?_⟩ | with_reducible refine rd_leS ?_ | ((with_reducible refine' w_now ?C ?h ?_); (case C => assumption); (case h => rfl)) | ((with_reducible refine' w_width ?C ?h ?_); (case C => assumption); (case h => rfl)) | ((with_reducible refine' w_height ?C ?h ?_); (case C => assumption); (case h => rfl)) | ((with_reducible refine' w_caret ?C ?h ?_); (case C => assumption); (case h => rfl)) | ((with_reducible refine' w_is_back ?C ?h ?_); (case C => assumption); (case h => rfl)) | ((with_reducible refine' w_anchor ?C ?h ?_); (case C => assumption); (case h => rfl)) | ((with_reducible refine' w_wish ?C ?h ?_); (case C => assumption); (case h => rfl)) | ((with_reducible refine' w_first ?C ?h ?_); (case C => assumption); (case h => rfl)) | ((with_reducible refine' w_mText ?h ?R ?C ?wf ?e ?_); (case h => rfl); (case R => assumption); (case C => assumption); (case wf => assumption); (case e => rfl)) | ((with_reducible refine' w_mRows ?h ?R ?C ?wf ?e ?_); (case h => rfl); (case R => assumption); (case C => assumption); (case wf => assumption); (case e => rfl)) | ((with_reducible refine' w_mAt ?h ?R ?C ?wf ?e ?_); (case h => rfl); (case R => assumption); (case C => assumption); (case wf => assumption); (case e => rfl)) | ((with_reducible refine' w_mChosen ?h ?R ?C ?wf ?e ?_); (case h => rfl); (case R => assumption); (case C => assumption); (case wf => assumption); (case e => rfl)) | ((with_reducible refine' w_mChosenT ?h ?R ?C ?wf ?e ?_); (case h => rfl); (case R => assumption); (case C => assumption); (case wf => assumption); (case e => rfl)) | ((with_reducible refine' w_mView ?h ?R ?C ?wf ?e ?_); (case h => rfl); (case R => assumption); (case C => assumption); (case wf => assumption); (case e => rfl)))
local macro_rules | `(tactic| walk_at "xs") => `(tactic| repeat (first | with_reducible refine t_seq ?_ | with_reducible refine t_ret ?_ | with_reducible refine t_set ?_ | with_reducible refine t_drop ?_ | with_reducible refine t_if ?_ | with_reducible refine t_next ?_ | with_reducible refine t_raise ?_ | with_reducible refine t_asg ?_ | with_reducible refine t_retN ?_ | with_reducible refine w_op ?_ | ((with_reducible refine' w_var ?h ?_); (case h => rfl)) | ((with_reducible refine' w_own ?h ?_); (case h => rfl)) | with_reducible refine w_int ?_ | ((with_reducible refine' w_k ?h ?_); (case h => decide +kernel)) | with_reducible refine w_bl ?_ | with_reducible refine w_non ?_ | with_reducible refine w_if ?_ | with_reducible refine w_andV ?_ | with_reducible refine w_orV ?_ | with_reducible refine w_notV ?_ | with_reducible refine w_tup ?_ | with_reducible refine w_lst ?_ | with_reducible refine w_cb ?_ | with_reducible refine w_chain ?_ | with_reducible refine w_slS ?_ | with_reducible refine w_slL ?_ | with_reducible refine w_find1 ?_ | with_reducible refine w_find2 ?_ | with_reducible refine w_rfind1 ?_ | with_reducible refine w_rfind3 ?_ | with_reducible refine w_neg ?_ | with_reducible refine w_ref ?_ | with_reducible refine w_ty ?_ | with_reducible refine wt_test ?_ | with_reducible refine wt_B ?_ | with_reducible refine wt_and ?_ | with_reducible refine wt_or ?_ | with_reducible refine wt_not ?_ | with_reducible refine wt_yes ?_ | with_reducible refine wd_nil ?_ | with_reducible refine wd_cons ?_ | with_reducible refine wa_nil ?_ | with_reducible refine wa_cons ?_ | with_reducible refine wo_none ?_ | with_reducible refine wo_some ?_ | with_reducible refine rd_I0i ?_ | with_reducible refine rd_I0b ?_ | with_reducible refine rd_eqI ?_ | with_reducible refine rd_neI ?_ | with_reducible refine rd_eqS ?_ | with_reducible refine rd_neS ?_ | with_reducible refine rd_isN ?_ | with_reducible refine rd_notN ?_ | with_reducible refine rd_inSign ?_ | with_reducible refine cd_lenL ?_ | ((with_reducible refine' cd_lenS ?h ?_); (case h => first | assumption | omega)) | with_reducible refine cd_lenT ?_ | with_reducible refine cd_lenR ?_ | with_reducible refine cd_abs ?_ | with_reducible refine cd_max2 ?_ | with_reducible refine cd_min2 ?_ | with_reducible refine cd_intB ?_ | with_reducible refine cd_ord ?_ | with_reducible refine g_name ?_ | with_reducible refine ⟨_, rfl, ?_⟩ | with_reducible refine rd_leS ?_ | ((with_reducible refine' w_now ?C ?h ?_); (case C => assumption); (case h => rfl)) | ((with_reducible refine' w_width ?C ?h ?_); (case C => assumption); (case h => rfl)) | ((with_reducible refine' w_height ?C ?h ?_); (case C => assumption); (case h => rfl)) | ((with_reducible refine' w_caret ?C ?h ?_); (case C => assumption); (case h => rfl)) | ((with_reducible refine' w_is_back ?C ?h ?_); (case C => assumption); (case h => rfl)) | ((with_reducible refine' w_anchor ?C ?h ?_); (case C => assumption); (case h => rfl)) | ((with_reducible refine' w_wish ?C ?h ?_); (case C => assumption); (case h => rfl)) | ((with_reducible refine' w_first ?C ?h ?_); (case C => assumption); (case h => rfl)) | ((with_reducible refine' w_mText ?h ?R ?C ?wf ?e ?_); (case h => rfl); (case R => assumption); (case C => assumption); (case wf => assumption); (case e => rfl)) | ((with_reducible refine' w_mRows ?h ?R ?C ?wf ?e ?_); (case h => rfl); (case R => assumption); (case C => assumption); (case wf => assumption); (case e => rfl)) | ((with_reducible refine' w_mAt ?h ?R ?C ?wf ?e ?_); (case h => rfl); (case R => assumption); (case C => assumption); (case wf => assumption); (case e => rfl)) | ((with_reducible refine' w_mChosen ?h ?R ?C ?wf ?e ?_); (case h => rfl); (case R => assumption); (case C => assumption); (case wf => assumption); (case e => rfl)) | ((with_reducible refine' w_mChosenT ?h ?R ?C ?wf ?e ?_); (case h => rfl); (case R => assumption); (case C => assumption); (case wf => assumption); (case e => rfl)) | ((with_reducible refine' w_mView ?h ?R ?C ?wf ?e ?_); (case h => rfl); (case R => assumption); (case C => assumption); (case wf => assumption); (case e => rfl)) | simp only [List.set_cons_succ, List.set_cons_zero]))
abbrev loS (s : Sh) : Nat := min s.caret s.anchor
abbrev hiS (s : Sh) : Nat := max s.caret s.anchor
def writeS (s : Sh) (new : List Nat) : Sh := putS (carS s (loS s) (hiS s) new) (loS s + new.length) false false
def f_Sheet_write (K : PySem.W.Frag) : FS := fun ys R X => ∃ (p : Addr) (s : Sh) (new : List Nat), ys = [.o p (osh K s), .d (.str new)] ∧ RwF K ∧ ShC K ∧ Wf s ∧ WfM s ∧ new.length ≤ 1000000 ∧ (isText (carS s (loS s) (hiS s) new).now = false → X "BadText" [some (.o p (osh K s)), none]) ∧ (isText (carS s (loS s) (hiS s) new).now = true → R .non [some (.o p (osh K (writeS s new))), none])
abbrev sp_Sheet_write (K : PySem.W.Frag) : Sp := SpOf K (f_Sheet_write K)
def t_Sheet_write (K : PySem.W.Frag) (E : XK) : TS := (tSeq (tAsg (tMeth (He.ga K "Sheet") "chosen" (sp_Sheet_chosen K) [] L2.E0 (tVar 0) tNil) (gTup K 2 (gCons (gName 2) (gCons (gName 3) gNil))))
  (tSeq (tDrop (tMeth (He.ga K "Sheet") "change" (sp_Sheet_change K) [] E (tVar 0) (tCons (tVar 2) (tCons (tVar 3) (tCons (tVar 1) tNil)))))
  (tDrop (tMeth (He.ga K "Sheet") "put" (sp_Sheet_put K) [] L2.E0 (tVar 0) (tCons (tOp rPlus (tVar 2) (tCB (rLen K) (tCons (tVar 1) tNil))) (tCons (tC (.bl false)) (tCons (tC (.bl false)) tNil)))))))
theorem len_f_Sheet_write {K : PySem.W.Frag} : ∀ ds R X, f_Sheet_write K ds R X → ds.length = 2 := by
  rintro ds R X ⟨_, _, _, rfl, _⟩
  rfl
theorem len_Sheet_write {K : PySem.W.Frag} : ∀ vs H Q E, sp_Sheet_write K vs H Q E → vs.length = 2 := fun _ _ _ _ h => spOf_len len_f_Sheet_write h
theorem cl_write {K : PySem.W.Frag} {δ : Dl} {P : PX} {X : XX} {p : Addr} {s : Sh} {i : Nat} {new : List Nat} (hi : δ[i]? = some (some (.o p (osh K s)))) (F : RwF K) (C : ShC K) (wf : Wf s) (wm : WfM s) (h3 : new.length ≤ 1000000) (k1 : isText (carS s (loS s) (hiS s) new).now = false → X "BadText" (δ.set i (some (.o p (osh K s))))) (k2 : isText (carS s (loS s) (hiS s) new).now = true → P (.d .non) (δ.set i (some (.o p (osh K (writeS s new)))))) : Cl (f_Sheet_write K) [.a p, .d (.str new)] δ P X :=
  ⟨_, [some i, none], .o hi (.d .nil), uq2, p, s, new, rfl, F, C, wf, wm, h3, k1, k2⟩
theorem Wf.car {s : Sh} (h : Wf s) {f l : Nat} {new : List Nat} (it : isText (carS s f l new).now = true) : Wt (carS s f l new) := ⟨it, h.w1, h.w2, h.h1, h.h2⟩
theorem Wt.put {s : Sh} (h : Wt s) {o : Nat} (ho : o ≤ s.now.length) (b : Bool) : Wf (putS s o b false) := ⟨h.t, h.w1, h.w2, h.h1, h.h2, ho, ho⟩
theorem car_len {s : Sh} {f l : Nat} {new : List Nat} (hl : f ≤ s.now.length) : f + new.length ≤ (carS s f l new).now.length := by
  show f + new.length ≤ (s.now.take f ++ new ++ s.now.drop l).length
  rw [List.length_append, List.length_append, List.length_take]
  omega
theorem pure_Sheet_write {K : PySem.W.Frag} {vs : List V} {H : Hp} {Q : VK} {E : XK} (h : sp_Sheet_write K vs H Q E) : t_Sheet_write K E { nx := fun _ H' => Q .non H', rt := Q } (L2.start ["self", "new", "first", "last"] vs) H := by
  refine body (ts := t_Sheet_write K) 2 2 rfl len_f_Sheet_write (fun ds R X ⟨p, s, new, e, F, C, wf, wm, hnl, k1, k2⟩ => ?_) h
  subst e
  show T K _ (t_Sheet_write K E) [some (.o p (osh K s)), some (.d (.str new)), none, none] _ _ _
  unfold t_Sheet_write
  have hl := wf.l
  have hc := wf.c
  have ha := wf.a
  walk_at "xs"
  unfold chD
  refine g_tup rfl (gs_cons (g_name (gs_cons (g_name (gs_nil ?_)))))
  refine t_seq (t_drop (w_mX (fun _ _ _ _ h => h) rfl (by decide) ?_))
  walk_at "xs"
  refine cl_change (i := 0) rfl C wm (by omega) (by omega) hnl (fun z => ⟨k1 z, rfl, trivial⟩) fun z => ?_
  have hk := k2 z
  refine t_drop (w_mV rfl (by decide) ?_)
  walk_at "xs"
  have e1 : ((min s.caret s.anchor : Nat) : Int) + (new.length : Int) = ((loS s + new.length : Nat) : Int) := by show _ = ((min s.caret s.anchor + new.length : Nat) : Int); omega
  rw [e1]
  refine cl_putT (i := 0) rfl F C (wf.car z) (fun z => nomatch z) (car_len (by show min _ _ ≤ _; omega)) ⟨hk, rfl, trivial⟩
noncomputable def preS (s : Sh) (mv : List Nat) : Sh := if s.caret = s.anchor then { moveS s mv true with first := s.first } else s
noncomputable def eraseS (s : Sh) (mv : List Nat) : Sh := putS (carS (preS s mv) (loS (preS s mv)) (hiS (preS s mv)) []) (loS (preS s mv)) false false
theorem isText_sub {t : List Nat} (h : isText t = true) (f l : Nat) (hfl : f ≤ l) : isText (t.take f ++ [] ++ t.drop l) = true := by
  refine isText_of ?_ ?_
  · have := text_len h
    rw [List.length_append, List.length_append, List.length_take, List.length_drop]
    simp
    omega
  · have := text_ok h
    intro c hc
    rw [List.append_nil, List.mem_append] at hc
    rcases hc with hc | hc
    · exact this c (List.mem_of_mem_take hc)
    · exact this c (List.mem_of_mem_drop hc)
theorem moveS_now (s : Sh) (mv : List Nat) (ch : Bool) : (moveS s mv ch).now = s.now ∧ (moveS s mv ch).width = s.width ∧ (moveS s mv ch).height = s.height ∧ (moveS s mv ch).marked = s.marked := by
  unfold moveS
  split
  · exact ⟨rfl, rfl, rfl, rfl⟩
  · unfold flatS
    split
    · exact ⟨rfl, rfl, rfl, rfl⟩
    split
    · exact ⟨rfl, rfl, rfl, rfl⟩
    split <;> exact ⟨rfl, rfl, rfl, rfl⟩
theorem Wf.pre {s : Sh} (h : Wf s) (mv : List Nat) : Wf (preS s mv) := by
  unfold preS
  split
  · have := h.move mv true
    exact ⟨this.t, this.w1, this.w2, this.h1, this.h2, this.c, this.a⟩
  · exact h
theorem WfM.move {s : Sh} (h : WfM s) (mv : List Nat) (ch : Bool) : WfM (moveS s mv ch) := by
  have := (moveS_now s mv ch).2.2.2
  exact ⟨by rw [this]; exact h.n, by rw [this]; exact h.l⟩
theorem WfM.pre {s : Sh} (h : WfM s) (mv : List Nat) : WfM (preS s mv) := by
  unfold preS
  split
  · have := h.move mv true
    exact ⟨this.n, this.l⟩
  · exact h
theorem erase_text {s : Sh} (h : Wf s) : isText (carS s (loS s) (hiS s) []).now = true := isText_sub h.t _ _ (by show min _ _ ≤ max _ _; omega)
def f_Sheet_erase (K : PySem.W.Frag) : FS := fun ys R X => ∃ (p : Addr) (s : Sh) (mv : List Nat), ys = [.o p (osh K s), .d (.str mv)] ∧ RwF K ∧ ShC K ∧ CoF K ∧ Wf s ∧ WfM s ∧ (mv ∉ movesL → X "BadMove" [some (.o p (osh K s)), none]) ∧ (mv ∈ movesL → R .non [some (.o p (osh K (eraseS s mv))), none])
abbrev sp_Sheet_erase (K : PySem.W.Frag) : Sp := SpOf K (f_Sheet_erase K)
def t_Sheet_erase (K : PySem.W.Frag) (E : XK) : TS := (tSeq (tIfS (tTest (tOp (rIn K true) (tVar 1) (tC (.ref (He.ga K "MOVES"))))) (tRz E (He.ga K "BadMove")) tNext)
  (tSeq (tAsg (tMeth (He.ga K "Sheet") "chosen" (sp_Sheet_chosen K) [] L2.E0 (tVar 0) tNil) (gTup K 2 (gCons (gName 2) (gCons (gName 3) gNil))))
  (tSeq (tIfS (tTest (tOp rEq (tVar 2) (tVar 3))) (tSeq (tAsg (tFld K (tVar 0) "first") (gName 4))
  (tSeq (tDrop (tMeth (He.ga K "Sheet") "move" (sp_Sheet_move K) [] E (tVar 0) (tCons (tVar 1) (tCons (tC (.bl true)) tNil))))
  (tSeq (tAsg (tMeth (He.ga K "Sheet") "chosen" (sp_Sheet_chosen K) [] L2.E0 (tVar 0) tNil) (gTup K 2 (gCons (gName 2) (gCons (gName 3) gNil))))
  (sFld K (tVar 0) (tVar 4) "first")))) tNext)
  (tSeq (tDrop (tMeth (He.ga K "Sheet") "change" (sp_Sheet_change K) [] E (tVar 0) (tCons (tVar 2) (tCons (tVar 3) (tCons (tK [] "") tNil)))))
  (tDrop (tMeth (He.ga K "Sheet") "put" (sp_Sheet_put K) [] L2.E0 (tVar 0) (tCons (tVar 2) (tCons (tC (.bl false)) (tCons (tC (.bl false)) tNil)))))))))
theorem len_f_Sheet_erase {K : PySem.W.Frag} : ∀ ds R X, f_Sheet_erase K ds R X → ds.length = 2 := by
  rintro ds R X ⟨_, _, _, rfl, _⟩
  rfl
theorem len_Sheet_erase {K : PySem.W.Frag} : ∀ vs H Q E, sp_Sheet_erase K vs H Q E → vs.length = 2 := fun _ _ _ _ h => spOf_len len_f_Sheet_erase h
theorem cl_erase {K : PySem.W.Frag} {δ : Dl} {P : PX} {X : XX} {p : Addr} {s : Sh} {i : Nat} {mv : List Nat} (hi : δ[i]? = some (some (.o p (osh K s)))) (F : RwF K) (C : ShC K) (M : CoF K) (wf : Wf s) (wm : WfM s) (k1 : mv ∉ movesL → X "BadMove" (δ.set i (some (.o p (osh K s))))) (k2 : mv ∈ movesL → P (.d .non) (δ.set i (some (.o p (osh K (eraseS s mv)))))) : Cl (f_Sheet_erase K) [.a p, .d (.str mv)] δ P X :=
  ⟨_, [some i, none], .o hi (.d .nil), uq2, p, s, mv, rfl, F, C, M, wf, wm, k1, k2⟩
theorem pure_Sheet_erase {K : PySem.W.Frag} {vs : List V} {H : Hp} {Q : VK} {E : XK} (h : sp_Sheet_erase K vs H Q E) : t_Sheet_erase K E { nx := fun _ H' => Q .non H', rt := Q } (L2.start ["self", "move", "first", "last", "top"] vs) H := by
  refine body (ts := t_Sheet_erase K) 2 3 rfl len_f_Sheet_erase (fun ds R X ⟨p, s, mv, e, F, C, M, wf, wm, k1, k2⟩ => ?_) h
  subst e
  show T K _ (t_Sheet_erase K E) [some (.o p (osh K s)), some (.d (.str mv)), none, none, none] _ _ _
  unfold t_Sheet_erase
  refine t_seq (t_if (wt_test (w_op (w_var rfl (w_con M.mv (rd_notInT ⟨_, rfl, fun hb => t_raise ⟨k1 (by simpa using hb), rfl, trivial⟩, fun hb => t_next ?_⟩))))))
  have hin : mv ∈ movesL := by simpa using hb
  have hk : R .non [some (.o p (osh K (putS (carS (preS s mv) (loS (preS s mv)) (hiS (preS s mv)) []) (loS (preS s mv)) false false))), none] := k2 hin
  have wf2 := wf.pre mv
  have wm2 := wm.pre mv
  clear k1 k2 hb
  walk_at "xs"
  unfold chD
  refine g_tup rfl (gs_cons (g_name (gs_cons (g_name (gs_nil ?_)))))
  refine t_seq (T.imp (N := fun δ => ∃ x4 : Option Dx, δ = [some (.o p (osh K (preS s mv))), some (.d (.str mv)), some (.d (.int ((loS (preS s mv) : Nat) : Int))), some (.d (.int ((hiS (preS s mv) : Nat) : Int))), x4]) (R := fun _ _ => False) ?_ ?_ (fun _ _ z => z.elim))
  · show T K _ _ [some (.o p (osh K s)), some (.d (.str mv)), some (.d (.int ((loS s : Nat) : Int))), some (.d (.int ((hiS s : Nat) : Int))), none] _ _ _
    have elo : loS s = min s.caret s.anchor := rfl
    have ehi : hiS s = max s.caret s.anchor := rfl
    walk_at "xs"
    refine ⟨fun hb => ?_, fun hb => ?_⟩
    · have hb := of_decide_eq_true hb
      have ee : s.caret = s.anchor := by omega
      have ep : preS s mv = { moveS s mv true with first := s.first } := by unfold preS; rw [if_pos ee]
      rw [ep]
      refine t_seq (t_set (w_first C rfl ⟨_, rfl, ?_⟩))
      refine t_seq (t_drop (w_mX (fun _ _ _ _ h => h) rfl (by decide) ?_))
      walk_at "xs"
      refine cl_move (i := 0) rfl F C M wf (fun z => absurd hin z) fun _ => ?_
      have wf3 := wf.move mv true
      refine t_seq (t_asg (w_mChosen rfl F C wf3 rfl ⟨_, rfl, ?_⟩))
      unfold chD
      refine g_tup rfl (gs_cons (g_name (gs_cons (g_name (gs_nil ?_)))))
      refine t_first C (w_var rfl ⟨_, p, _, rfl, rfl, ?_⟩)
      exact ⟨some (.d (.int s.first)), rfl⟩
    · have hb := of_decide_eq_false hb
      have ep : preS s mv = s := by unfold preS; rw [if_neg (by omega)]
      rw [ep]
      exact t_next ⟨_, rfl⟩
  rintro δ ⟨x4, rfl⟩
  generalize preS s mv = s2 at hk wf2 wm2
  have hl := wf2.l
  have hc := wf2.c
  have ha := wf2.a
  refine t_seq (t_drop (w_mX (fun _ _ _ _ h => h) rfl (by decide) ?_))
  walk_at "xs"
  refine cl_change (i := 0) rfl C wm2 (by show min _ _ ≤ max _ _; omega) (by omega) (by show 0 ≤ 1000000; decide) (fun z => by rw [erase_text wf2] at z; exact nomatch z) fun z => ?_
  refine t_drop (w_mV rfl (by decide) ?_)
  walk_at "xs"
  refine cl_putT (i := 0) rfl F C (wf2.car z) (fun z => nomatch z) (car_len (new := []) (by show min _ _ ≤ _; omega)) ⟨hk, rfl, trivial⟩
end Cr

namespace Cr
open PySem L2
local macro_rules | `(tactic| walk_at "x") => `(tactic| first | with_reducible refine t_seq ?_ | with_reducible refine t_ret ?_ | with_reducible refine t_set ?_ | with_reducible refine t_drop ?_ | with_reducible refine t_if ?_ | with_reducible refine t_next ?_ | with_reducible refine t_raise ?_ | with_reducible refine t_asg ?_ | with_reducible refine t_retN ?_ | with_reducible refine w_op ?_ | ((with_reducible refine' w_var ?h ?_); (case h => rfl)) | ((with_reducible refine' w_own ?h ?_); (case h => rfl)) | with_reducible refine w_int ?_ | ((with_reducible refine' w_k ?h ?_); (case h => decide +kernel)) | with_reducible refine w_bl ?_ | with_reducible refine w_non ?_ | with_reducible refine w_if ?_ | with_reducible refine w_andV ?_ | with_reducible refine w_orV ?_ | with_reducible refine w_notV ?_ | with_reducible refine w_tup ?_ | with_reducible refine w_lst ?_ | with_reducible refine w_cb ?_ | with_reducible refine w_chain ?_ | with_reducible refine w_slS ?_ | with_reducible refine w_slL ?_ | with_reducible refine w_find1 ?_ | with_reducible refine w_find2 ?_ | with_reducible refine w_rfind1 ?_ | with_reducible refine w_rfind3 ?_ | with_reducible refine w_neg ?_ | with_reducible refine w_ref ?_ | with_reducible refine w_ty ?_ | with_reducible refine wt_test ?_ | with_reducible refine wt_B ?_ | with_reducible refine wt_and ?_ | with_reducible refine wt_or ?_ | with_reducible refine wt_not ?_ | with_reducible refine wt_yes ?_ | with_reducible refine wd_nil ?_ | with_reducible refine wd_cons ?_ | with_reducible refine wa_nil ?_ | with_reducible refine wa_cons ?_ | with_reducible refine wo_none ?_ | with_reducible refine wo_some ?_ | with_reducible refine rd_I0i ?_ | with_reducible refine rd_I0b ?_ | with_reducible refine rd_eqI ?_ | with_reducible refine rd_neI ?_ | with_reducible refine rd_eqS ?_ | with_reducible refine rd_neS ?_ | with_reducible refine rd_isN ?_ | with_reducible refine rd_notN ?_ | with_reducible refine rd_inSign ?_ | with_reducible refine cd_lenL ?_ | ((with_reducible refine' cd_lenS ?h ?_); (case h => first | assumption | omega)) | with_reducible refine cd_lenT ?_ | with_reducible refine cd_lenR ?_ | with_reducible refine cd_abs ?_ | with_reducible refine cd_max2 ?_ | with_reducible refine cd_min2 ?_ | with_reducible refine cd_intB ?_ | with_reducible refine cd_ord ?_ | with_reducible refine g_name ?_ | with_reducible refine ⟨_, rfl, ?_⟩ | with_reducible refine rd_leS ?_ | ((with_reducible refine' w_now ?C ?h ?_); (case C => assumption); (case h => rfl)) | ((with_reducible refine' w_width ?C ?h ?_); (case C => assumption); (case h => rfl)) | ((with_reducible refine' w_height ?C ?h ?_); (case C => assumption); (case h => rfl)) | ((with_reducible refine' w_caret ?C ?h ?_); (case C => assumption); (case h => rfl)) | ((with_reducible refine' w_is_back ?C ?h ?_); (case C => assumption); (case h => rfl)) | ((with_reducible refine' w_anchor ?C ?h ?_); (case C => assumption); (case h => rfl)) | ((with_reducible refine' w_wish ?C ?h ?_); (case C => assumption); (case h => rfl)) | ((with_reducible refine' w_first ?C ?h ?_); (case C => assumption); (case h => rfl)) | ((with_reducible refine' w_mText ?h ?R ?C ?wf ?e ?_); (case h => rfl); (case R => assumption); (case C => assumption); (case wf => assumption); (case e => rfl)) | ((with_reducible refine' w_mRows ?h ?R ?C ?wf ?e ?_); (case h => rfl); (case R => assumption); (case C => assumption); (case wf => assumption); (case e => rfl)) | ((with_reducible refine' w_mAt ?h ?R ?C ?wf ?e ?_); (case h => rfl); (case R => assumption); (case C => assumption); (case wf => assumption); (case e => rfl)) | ((with_reducible refine' w_mChosen ?h ?R ?C ?wf ?e ?_); (case h => rfl); (case R => assumption); (case C => assumption); (case wf => assumption); (case e => rfl)) | ((with_reducible refine' w_mChosenT ?h ?R ?C ?wf ?e ?_); (case h => rfl); (case R => assumption); (case C => assumption); (case wf => assumption); (case e => rfl)) | ((with_reducible refine' w_mView ?h ?R ?C ?wf ?e ?_); (case h => rfl); (case R => assumption); (case C => assumption); (case wf => assumption); (case e => rfl)))
local macro_rules | `(tactic| walk_at "xs") => `(tactic| repeat (first | with_reducible refine t_seq ?_ | with_reducible refine t_ret ?_ | with_reducible refine t_set ?_ | with_reducible refine t_drop ?_ | with_reducible refine t_if ?_ | with_reducible refine t_next ?_ | with_reducible refine t_raise ?_ | with_reducible refine t_asg ?_ | with_reducible refine t_retN ?_ | with_reducible refine w_op ?_ | ((with_reducible refine' w_var ?h ?_); (case h => rfl)) | ((with_reducible refine' w_own ?h ?_); (case h => rfl)) | with_reducible refine w_int ?_ | ((with_reducible refine' w_k ?h ?_); (case h => decide +kernel)) | with_reducible refine w_bl ?_ | with_reducible refine w_non ?_ | with_reducible refine w_if ?_ | with_reducible refine w_andV ?_ | with_reducible refine w_orV ?_ | with_reducible refine w_notV ?_ | with_reducible refine w_tup ?_ | with_reducible refine w_lst ?_ | with_reducible refine w_cb ?_ | with_reducible refine w_chain ?_ | with_reducible refine w_slS ?_ | with_reducible refine w_slL ?_ | with_reducible refine w_find1 ?_ | with_reducible refine w_find2 ?_ | with_reducible refine w_rfind1 ?_ | with_reducible refine w_rfind3 ?_ | with_reducible refine w_neg ?_ | with_reducible refine w_ref ?_ | with_reducible refine w_ty ?_ | with_reducible refine wt_test ?_ | with_reducible refine wt_B ?_ | with_reducible refine wt_and ?_ | with_reducible refine wt_or ?_ | with_reducible refine wt_not ?_ | with_reducible refine wt_yes ?_ | with_reducible refine wd_nil ?_ | with_reducible refine wd_cons ?_ | with_reducible refine wa_nil ?_ | with_reducible refine wa_cons ?_ | with_reducible refine wo_none ?_ | with_reducible refine wo_some ?_ | with_reducible refine rd_I0i ?_ | with_reducible refine rd_I0b ?_ | with_reducible refine rd_eqI ?_ | with_reducible refine rd_neI ?_ | with_reducible refine rd_eqS ?_ | with_reducible refine rd_neS ?_ | with_reducible refine rd_isN ?_ | with_reducible refine rd_notN ?_ | with_reducible refine rd_inSign ?_ | with_reducible refine cd_lenL ?_ | ((with_reducible refine' cd_lenS ?h ?_); (case h => first | assumption | omega)) | with_reducible refine cd_lenT ?_ | with_reducible refine cd_lenR ?_ | with_reducible refine cd_abs ?_ | with_reducible refine cd_max2 ?_ | with_reducible refine cd_min2 ?_ | with_reducible refine cd_intB ?_ | with_reducible refine cd_ord ?_ | with_reducible refine g_name ?_ | with_reducible refine ⟨_, rfl, ?_⟩ | with_reducible refine rd_leS ?_ | ((with_reducible refine' w_now ?C ?h ?_); (case C => assumption); (case h => rfl)) | ((with_reducible refine' w_width ?C ?h ?_); (case C => assumption); (case h => rfl)) | ((with_reducible refine' w_height ?C ?h ?_); (case C => assumption); (case h => rfl)) | ((with_reducible refine' w_caret ?C ?h ?_); (case C => assumption); (case h => rfl)) | ((with_reducible refine' w_is_back ?C ?h ?_); (case C => assumption); (case h => rfl)) | ((with_reducible refine' w_anchor ?C ?h ?_); (case C => assumption); (case h => rfl)) | ((with_reducible refine' w_wish ?C ?h ?_); (case C => assumption); (case h => rfl)) | ((with_reducible refine' w_first ?C ?h ?_); (case C => assumption); (case h => rfl)) | ((with_reducible refine' w_mText ?h ?R ?C ?wf ?e ?_); (case h => rfl); (case R => assumption); (case C => assumption); (case wf => assumption); (case e => rfl)) | ((with_reducible refine' w_mRows ?h ?R ?C ?wf ?e ?_); (case h => rfl); (case R => assumption); (case C => assumption); (case wf => assumption); (case e => rfl)) | ((with_reducible refine' w_mAt ?h ?R ?C ?wf ?e ?_); (case h => rfl); (case R => assumption); (case C => assumption); (case wf => assumption); (case e => rfl)) | ((with_reducible refine' w_mChosen ?h ?R ?C ?wf ?e ?_); (case h => rfl); (case R => assumption); (case C => assumption); (case wf => assumption); (case e => rfl)) | ((with_reducible refine' w_mChosenT ?h ?R ?C ?wf ?e ?_); (case h => rfl); (case R => assumption); (case C => assumption); (case wf => assumption); (case e => rfl)) | ((with_reducible refine' w_mView ?h ?R ?C ?wf ?e ?_); (case h => rfl); (case R => assumption); (case C => assumption); (case wf => assumption); (case e => rfl)) | simp only [List.set_cons_succ, List.set_cons_zero]))
def resizeS (s : Sh) (w h : Nat) : Sh := scrollS { s with width := w, height := h, wish := none, first := rowAt (rowsW w s.now) (rowR (rowsS s) s.first).1 false, back := s.back && softE (rowsW w s.now) (rowAt (rowsW w s.now) s.caret true) s.caret }
def f_Sheet_resize (K : PySem.W.Frag) : FS := fun ys R X => ∃ (p : Addr) (s : Sh) (w h : Int), ys = [.o p (osh K s), .d (.int w), .d (.int h)] ∧ RwF K ∧ ShC K ∧ Wf s ∧ s.first < (rowsS s).length ∧ (¬ ((2 ≤ w ∧ w ≤ 200) ∧ goodH h) → X "BadSize" [some (.o p (osh K s)), none, none]) ∧ ((2 ≤ w ∧ w ≤ 200) ∧ goodH h → R .non [some (.o p (osh K (resizeS s w.toNat h.toNat))), none, none])
abbrev sp_Sheet_resize (K : PySem.W.Frag) : Sp := SpOf K (f_Sheet_resize K)
def t_Sheet_resize (K : PySem.W.Frag) (E : XK) : TS := (tSeq (tDrop (tCall (sp_look_width K) [] E (tCons (tVar 1) tNil)))
  (tSeq (tIfS (tNot (tTest (tChain rLe' rLe' (tC (.int 1)) (tVar 2) (tC (.int 100))))) (tRz E (He.ga K "BadSize")) tNext)
  (tSeq (tAsg (tFld K (tOp (rIxL K) (tMeth (He.ga K "Sheet") "rows" (sp_Sheet_rows K) [] L2.E0 (tVar 0) tNil) (tFld K (tVar 0) "first")) "start") (gName 3))
  (tSeq (sFld K (tVar 0) (tVar 1) "width")
  (tSeq (sFld K (tVar 0) (tVar 2) "height")
  (tSeq (sFld K (tVar 0) (tC .non) "wish")
  (tSeq (tAsg (tMeth (He.ga K "Sheet") "rows" (sp_Sheet_rows K) [] L2.E0 (tVar 0) tNil) (gName 4))
  (tSeq (sFld K (tVar 0) (tCall (sp_row_at K) [] L2.E0 (tCons (tVar 4) (tCons (tVar 3) (tCons (tC (.bl false)) tNil)))) "first")
  (tSeq (sFld K (tVar 0) (tAndV (tFld K (tVar 0) "is_back") (tCall (sp_is_soft_end K) [] L2.E0 (tCons (tVar 4) (tCons (tCall (sp_row_at K) [] L2.E0 (tCons (tVar 4) (tCons (tFld K (tVar 0) "caret") (tCons (tC (.bl true)) tNil)))) (tCons (tFld K (tVar 0) "caret") tNil))))) "is_back")
  (tDrop (tMeth (He.ga K "Sheet") "scroll" (sp_Sheet_scroll K) [] L2.E0 (tVar 0) tNil)))))))))))
theorem len_f_Sheet_resize {K : PySem.W.Frag} : ∀ ds R X, f_Sheet_resize K ds R X → ds.length = 3 := by
  rintro ds R X ⟨_, _, _, _, rfl, _⟩
  rfl
theorem len_Sheet_resize {K : PySem.W.Frag} : ∀ vs H Q E, sp_Sheet_resize K vs H Q E → vs.length = 3 := fun _ _ _ _ h => spOf_len len_f_Sheet_resize h
theorem cl_resize {K : PySem.W.Frag} {δ : Dl} {P : PX} {X : XX} {p : Addr} {s : Sh} {i : Nat} {w h : Int} (hi : δ[i]? = some (some (.o p (osh K s)))) (F : RwF K) (C : ShC K) (wf : Wf s) (hf : s.first < (rowsS s).length) (k1 : ¬ ((2 ≤ w ∧ w ≤ 200) ∧ goodH h) → X "BadSize" (δ.set i (some (.o p (osh K s))))) (k2 : (2 ≤ w ∧ w ≤ 200) ∧ goodH h → P (.d .non) (δ.set i (some (.o p (osh K (resizeS s w.toNat h.toNat)))))) : Cl (f_Sheet_resize K) [.a p, .d (.int w), .d (.int h)] δ P X :=
  ⟨_, [some i, none, none], .o hi (.d (.d .nil)), uq3o, p, s, w, h, rfl, F, C, wf, hf, k1, k2⟩
theorem pure_Sheet_resize {K : PySem.W.Frag} {vs : List V} {H : Hp} {Q : VK} {E : XK} (h : sp_Sheet_resize K vs H Q E) : t_Sheet_resize K E { nx := fun _ H' => Q .non H', rt := Q } (L2.start ["self", "width", "height", "start", "rows"] vs) H := by
  refine body (ts := t_Sheet_resize K) 3 2 rfl len_f_Sheet_resize (fun ds R X ⟨p, s, w, h, e, F, C, wf, hf, k1, k2⟩ => ?_) h
  subst e
  show T K _ (t_Sheet_resize K E) [some (.o p (osh K s)), some (.d (.int w)), some (.d (.int h)), none, none] _ _ _
  unfold t_Sheet_resize
  have hl := wf.l
  have hc := wf.c
  have hr := rowR_get hf
  have hrd : ((rowsS s).map dR)[s.first]? = some (dR (rowR (rowsS s) s.first)) := by rw [List.getElem?_map, hr]; rfl
  have hm := wf.ch.mem _ (rowR_mem hf)
  refine t_seq (t_drop (w_fnX (fun _ _ _ _ h => h) ?_))
  walk_at "xs"
  refine ⟨w, rfl, fun iw => ?_, fun z => ⟨k1 fun q => z q.1, rfl, trivial⟩⟩
  refine t_seq (t_if (WT.imp (P := fun q δ' => (q = false ↔ goodH h) ∧ δ' = [some (.o p (osh K s)), some (.d (.int w)), some (.d (.int h)), none, none]) ?_ ?_))
  · unfold goodH
    walk_at "xs"
    refine ⟨fun hb => ?_, fun hb => ?_⟩
    · have hb := of_decide_eq_true hb
      walk_at "xs"
      refine ⟨?_, trivial⟩
      simp
      omega
    · have hb := of_decide_eq_false hb
      refine ⟨_, rfl, ?_, trivial⟩
      simp
      omega
  rintro q δ' ⟨hq, rfl⟩
  refine ⟨fun hb => t_raise ⟨k1 (fun z => by rw [hq.mpr z.2] at hb; exact (nomatch hb)), rfl, trivial⟩, fun hb => t_next ?_⟩
  have hh := hq.mp hb
  have hk := k2 ⟨iw, hh⟩
  unfold goodH at hh
  obtain ⟨w, rfl⟩ : ∃ u : Nat, w = (u : Int) := ⟨w.toNat, by omega⟩
  obtain ⟨h, rfl⟩ : ∃ u : Nat, h = (u : Int) := ⟨h.toNat, by omega⟩
  rw [Int.toNat_natCast, Int.toNat_natCast] at hk
  refine t_seq (t_set (w_start F (w_op (w_mRows rfl F C wf rfl (w_first C rfl (rd_ixL (atI_nat hrd) ⟨_, _, _, rfl, _, rfl, ?_⟩))))))
  have hk : R .non [some (.o p (osh K (scrollS { s with width := w, height := h, wish := none, first := rowAt (rowsW w s.now) (rowR (rowsS s) s.first).1 false, back := s.back && softE (rowsW w s.now) (rowAt (rowsW w s.now) s.caret true) s.caret }))), none, none] := hk
  generalize (rowR (rowsS s) s.first).1 = st at hk hm ⊢
  refine t_seq (t_width C (w_var rfl ⟨w, p, s, rfl, rfl, ?_⟩))
  refine t_seq (t_height C (w_var rfl ⟨h, p, { s with width := w }, rfl, rfl, ?_⟩))
  refine t_seq (t_wish C (w_non ⟨none, p, { s with width := w, height := h }, rfl, rfl, ?_⟩))
  have wt1 : Wt { s with width := w, height := h, wish := none } := ⟨wf.t, by show 2 ≤ w; omega, by show w ≤ 200; omega, by show 1 ≤ h; omega, by show h ≤ 100; omega⟩
  have hch : Ch 0 (rowsW w s.now) s.now.length := wt1.ch
  have hrl : (rowsW w s.now).length ≤ 2001 := wt1.rl
  refine t_seq (t_set (w_mRowsT rfl F C wt1 rfl ⟨_, rfl, ?_⟩))
  have hrows : rowsS { s with width := w, height := h, wish := none } = rowsW w s.now := rfl
  rw [hrows]
  generalize rowsW w s.now = L at hk hch hrl
  have hlt := rowAt_lt hch.ne s.caret true
  have hgr := rowR_get hlt
  refine t_seq (t_first C (w_fn ?_))
  walk_at "xs"
  refine ⟨L, st, false, rfl, F, hch.ne, by omega, _, p, { s with width := w, height := h, wish := none }, rfl, rfl, ?_⟩
  refine t_seq (t_is_back C (W.imp (P := fun x δ' => x = .d (.bl (s.back && softE L (rowAt L s.caret true) s.caret)) ∧ δ' = [some (.o p (osh K { s with width := w, height := h, wish := none, first := rowAt L st false })), some (.d (.int w)), some (.d (.int h)), some (.d (.int st)), some (.d (.lst (L.map dR)))]) ?_ ?_))
  · refine w_andV (w_is_back C rfl ⟨_, rfl, fun hb => ?_, fun hb => ?_⟩)
    · refine w_fn (wd_cons (w_var rfl ⟨_, rfl, wd_cons (w_fn ?_)⟩))
      walk_at "xs"
      refine ⟨L, s.caret, true, rfl, F, hch.ne, by omega, _, rfl, ?_⟩
      walk_at "xs"
      refine ⟨L, _, _, s.caret, rfl, F, hgr, ?_, ?_⟩
      · have hb : s.back = true := hb
        rw [hb, Bool.true_and]
        unfold softE
        rw [hgr]
        have : decide ((s.caret : Int) = ((rowR L (rowAt L s.caret true)).2.1 : Int)) = decide (s.caret = (rowR L (rowAt L s.caret true)).2.1) := decide_eq_decide.mpr (by omega)
        rw [this]
      · first | rfl | trivial
    · have hb : s.back = false := hb
      rw [hb, Bool.false_and]
      exact ⟨rfl, rfl⟩
  rintro x δ' ⟨rfl, rfl⟩
  refine ⟨_, p, _, rfl, rfl, ?_⟩
  refine t_drop (w_mScroll rfl F C ⟨wf.t, wt1.w1, wt1.w2, wt1.h1, wt1.h2, hc, wf.a⟩ ⟨hk, rfl, trivial⟩)
def f_Sheet_mark (K : PySem.W.Frag) : FS := fun ys R X => ∃ (p : Addr) (s : Sh) (n : List Nat) (o : Int), ys = [.o p (osh K s), .d (.str n), .d (.int o)] ∧ ShC K ∧ Wf s ∧ WfM s ∧ (¬ (0 ≤ o ∧ o ≤ s.now.length) → X "BadPlace" [some (.o p (osh K s)), none, none]) ∧ (0 ≤ o ∧ o ≤ s.now.length → R .non [some (.o p (osh K { s with marked := putM s.marked n o.toNat })), none, none])
abbrev sp_Sheet_mark (K : PySem.W.Frag) : Sp := SpOf K (f_Sheet_mark K)
def t_Sheet_mark (K : PySem.W.Frag) (E : XK) : TS := (tSeq (tDrop (tCall (sp_look_offset K) [] E (tCons (tFld K (tVar 0) "now") (tCons (tVar 2) tNil))))
  (sDPut (tFld K (tVar 0) "marked") (tVar 1) (tVar 2)))
theorem len_f_Sheet_mark {K : PySem.W.Frag} : ∀ ds R X, f_Sheet_mark K ds R X → ds.length = 3 := by
  rintro ds R X ⟨_, _, _, _, rfl, _⟩
  rfl
theorem len_Sheet_mark {K : PySem.W.Frag} : ∀ vs H Q E, sp_Sheet_mark K vs H Q E → vs.length = 3 := fun _ _ _ _ h => spOf_len len_f_Sheet_mark h
theorem cl_mark {K : PySem.W.Frag} {δ : Dl} {P : PX} {X : XX} {p : Addr} {s : Sh} {i : Nat} {n : List Nat} {o : Int} (hi : δ[i]? = some (some (.o p (osh K s)))) (C : ShC K) (wf : Wf s) (wm : WfM s) (k1 : ¬ (0 ≤ o ∧ o ≤ s.now.length) → X "BadPlace" (δ.set i (some (.o p (osh K s))))) (k2 : 0 ≤ o ∧ o ≤ s.now.length → P (.d .non) (δ.set i (some (.o p (osh K { s with marked := putM s.marked n o.toNat }))))) : Cl (f_Sheet_mark K) [.a p, .d (.str n), .d (.int o)] δ P X :=
  ⟨_, [some i, none, none], .o hi (.d (.d .nil)), uq3o, p, s, n, o, rfl, C, wf, wm, k1, k2⟩
theorem pure_Sheet_mark {K : PySem.W.Frag} {vs : List V} {H : Hp} {Q : VK} {E : XK} (h : sp_Sheet_mark K vs H Q E) : t_Sheet_mark K E { nx := fun _ H' => Q .non H', rt := Q } (L2.start ["self", "name", "offset"] vs) H := by
  refine body (ts := t_Sheet_mark K) 3 0 rfl len_f_Sheet_mark (fun ds R X ⟨p, s, n, o, e, C, wf, wm, k1, k2⟩ => ?_) h
  subst e
  show T K _ (t_Sheet_mark K E) [some (.o p (osh K s)), some (.d (.str n)), some (.d (.int o))] _ _ _
  unfold t_Sheet_mark
  have hl := wf.l
  refine t_seq (t_drop (w_fnX (fun _ _ _ _ h => h) ?_))
  walk_at "xs"
  refine ⟨s.now, o, rfl, by omega, fun ok => ?_, fun no => ⟨k1 no, rfl, trivial⟩⟩
  have hk := k2 ok
  obtain ⟨u, rfl⟩ : ∃ u : Nat, o = (u : Int) := ⟨o.toNat, by omega⟩
  rw [Int.toNat_natCast] at hk
  refine t_markPut C (w_var rfl ⟨u, n, p, s, rfl, rfl, rfl, by have := wm.l; omega, hk, rfl, trivial⟩)
/-- the marks, by name -/
noncomputable def marksD (s : Sh) : Da := .lst ((srtK (s.marked.map (·.1))).map fun n => .tup [.str n, .int (((markOf s.marked n).getD 0 : Nat) : Int)])
def f_Sheet_marks (K : PySem.W.Frag) : FS := fun ys R _ => ∃ (p : Addr) (s : Sh), ys = [.o p (osh K s)] ∧ ShC K ∧ WfM s ∧ R (marksD s) [some (.o p (osh K s))]
abbrev sp_Sheet_marks (K : PySem.W.Frag) : Sp := SpOf K (f_Sheet_marks K)
def t_Sheet_marks (K : PySem.W.Frag) (E : XK) : TS := (tRet (tLc (iList K (tSortKeys (tFld K (tVar 0) "marked"))) (gName 1) tYes (tTup (tCons (tVar 1) (tCons (tDGet (tFld K (tVar 0) "marked") (tVar 1)) tNil))) [1]))
theorem len_f_Sheet_marks {K : PySem.W.Frag} : ∀ ds R X, f_Sheet_marks K ds R X → ds.length = 1 := by
  rintro ds R X ⟨_, _, rfl, _⟩
  rfl
theorem len_Sheet_marks {K : PySem.W.Frag} : ∀ vs H Q E, sp_Sheet_marks K vs H Q E → vs.length = 1 := fun _ _ _ _ h => spOf_len len_f_Sheet_marks h
theorem w_mMarks {K : PySem.W.Frag} {E : WX} {δ : Dl} {P : PX} {X : XX} {i : Nat} {p : Addr} {s : Sh} {E' : XK} (hi : δ[i]? = some (some (.o p (osh K s)))) (C : ShC K) (wm : WfM s) (hs : δ.set i (some (.o p (osh K s))) = δ) (k : P (.d (marksD s)) δ) : W K E (tMeth (He.ga K "Sheet") "marks" (sp_Sheet_marks K) [] E' (tVar i) tNil) δ P X :=
  w_mV hi (by decide) (wa_nil ⟨_, [some i], .o hi .nil, uq1, p, s, rfl, C, wm, by
    show P _ (δ.set i (some (.o p (osh K s))))
    rw [hs]
    exact k⟩)
theorem srtK_mem {ks : List (List Nat)} {x : List Nat} (h : x ∈ srtK ks) : x ∈ ks := by
  unfold srtK at h
  split at h
  · rename_i hx
    exact hx.choose_spec.1.mem_iff.mp h
  · exact h
theorem srtK_len (ks : List (List Nat)) : (srtK ks).length = ks.length := by
  unfold srtK
  split
  · rename_i hx
    exact hx.choose_spec.1.length_eq
  · rfl
theorem mark_mem : ∀ {ms : Mks} {n : List Nat}, n ∈ ms.map (·.1) → ∃ o, markOf ms n = some o
  | [], _, h => nomatch h
  | x :: r, n, h => by
    by_cases e : x.1 = n
    · exact ⟨x.2, by simp [markOf, List.find?_cons, e]⟩
    · rw [List.map_cons, List.mem_cons] at h
      obtain ⟨o, ho⟩ := mark_mem (ms := r) (h.resolve_left fun z => e z.symm)
      exact ⟨o, by simpa [markOf, List.find?_cons, e] using ho⟩
def pairM (ms : Mks) : Da → Option Da
  | .str n => some (.tup [.str n, .int (((markOf ms n).getD 0 : Nat) : Int)])
  | _ => none
theorem pure_Sheet_marks {K : PySem.W.Frag} {vs : List V} {H : Hp} {Q : VK} {E : XK} (h : sp_Sheet_marks K vs H Q E) : t_Sheet_marks K E { nx := fun _ H' => Q .non H', rt := Q } (L2.start ["self", "name"] vs) H := by
  refine body (ts := t_Sheet_marks K) 1 1 rfl len_f_Sheet_marks (fun ds R X ⟨p, s, e, C, wm, hk⟩ => ?_) h
  subst e
  show T K _ (t_Sheet_marks K E) [some (.o p (osh K s)), none] _ _ _
  unfold t_Sheet_marks
  refine t_ret (w_lcP (pairM s.marked) (wi_list (w_markSort C rfl wm.l ⟨_, rfl, noneAt1 rfl, ?_, fun i d hd => ?_, ?_⟩)))
  · rw [List.length_map, srtK_len, List.length_map]
    have := wm.l
    omega
  · obtain ⟨n, hn, rfl⟩ := map_get hd
    obtain ⟨o, ho⟩ := mark_mem (srtK_mem (List.mem_of_getElem? hn))
    refine gv_name (by simp) ?_
    walk_at "xs"
    refine ⟨fun _ => ?_, fun z => nomatch z⟩
    refine w_tup (wd_cons (w_var rfl ⟨_, rfl, wd_cons (w_markGet C rfl rfl ho ⟨_, rfl, wd_nil ⟨by show 2 ≤ 16000000; decide, ?_⟩⟩)⟩))
    refine ⟨_, rfl, ?_, rfl⟩
    show some (Da.tup [.str n, .int (((markOf s.marked n).getD 0 : Nat) : Int)]) = _
    rw [ho]
    rfl
  · rw [fm_map (f := Da.str) (g := fun n => .tup [.str n, .int (((markOf s.marked n).getD 0 : Nat) : Int)]) (h := pairM s.marked) (fun a => rfl)]
    exact ⟨hk, rfl, trivial⟩
end Cr

namespace Cr
open PySem L2
local macro_rules | `(tactic| walk_at "x") => `(tactic| first | with_reducible refine t_seq ?_ | with_reducible refine t_ret ?_ | with_reducible refine t_set ?_ | with_reducible refine t_drop ?_ | with_reducible refine t_if ?_ | with_reducible refine t_next ?_ | with_reducible refine t_raise ?_ | with_reducible refine t_asg ?_ | with_reducible refine t_retN ?_ | with_reducible refine w_op ?_ | ((with_reducible refine' w_var ?h ?_); (case h => rfl)) | ((with_reducible refine' w_own ?h ?_); (case h => rfl)) | with_reducible refine w_int ?_ | ((with_reducible refine' w_k ?h ?_); (case h => decide +kernel)) | with_reducible refine w_bl ?_ | with_reducible refine w_non ?_ | with_reducible refine w_if ?_ | with_reducible refine w_andV ?_ | with_reducible refine w_orV ?_ | with_reducible refine w_notV ?_ | with_reducible refine w_tup ?_ | with_reducible refine w_lst ?_ | with_reducible refine w_cb ?_ | with_reducible refine w_chain ?_ | with_reducible refine w_slS ?_ | with_reducible refine w_slL ?_ | with_reducible refine w_find1 ?_ | with_reducible refine w_find2 ?_ | with_reducible refine w_rfind1 ?_ | with_reducible refine w_rfind3 ?_ | with_reducible refine w_neg ?_ | with_reducible refine w_ref ?_ | with_reducible refine w_ty ?_ | with_reducible refine wt_test ?_ | with_reducible refine wt_B ?_ | with_reducible refine wt_and ?_ | with_reducible refine wt_or ?_ | with_reducible refine wt_not ?_ | with_reducible refine wt_yes ?_ | with_reducible refine wd_nil ?_ | with_reducible refine wd_cons ?_ | with_reducible refine wa_nil ?_ | with_reducible refine wa_cons ?_ | with_reducible refine wo_none ?_ | with_reducible refine wo_some ?_ | with_reducible refine rd_I0i ?_ | with_reducible refine rd_I0b ?_ | with_reducible refine rd_eqI ?_ | with_reducible refine rd_neI ?_ | with_reducible refine rd_eqS ?_ | with_reducible refine rd_neS ?_ | with_reducible refine rd_isN ?_ | with_reducible refine rd_notN ?_ | with_reducible refine rd_inSign ?_ | with_reducible refine cd_lenL ?_ | ((with_reducible refine' cd_lenS ?h ?_); (case h => first | assumption | omega)) | with_reducible refine cd_lenT ?_ | with_reducible refine cd_lenR ?_ | with_reducible refine cd_abs ?_ | with_reducible refine cd_max2 ?_ | with_reducible refine cd_min2 ?_ | with_reducible refine cd_intB ?_ | with_reducible refine cd_ord ?_ | with_reducible refine g_name ?_ | with_reducible refine ⟨_, rfl, ?_⟩ | with_reducible refine rd_leS ?_ | ((with_reducible refine' w_now ?C ?h ?_); (case C => assumption); (case h => rfl)) | ((with_reducible refine' w_width ?C ?h ?_); (case C => assumption); (case h => rfl)) | ((with_reducible refine' w_height ?C ?h ?_); (case C => assumption); (case h => rfl)) | ((with_reducible refine' w_caret ?C ?h ?_); (case C => assumption); (case h => rfl)) | ((with_reducible refine' w_is_back ?C ?h ?_); (case C => assumption); (case h => rfl)) | ((with_reducible refine' w_anchor ?C ?h ?_); (case C => assumption); (case h => rfl)) | ((with_reducible refine' w_wish ?C ?h ?_); (case C => assumption); (case h => rfl)) | ((with_reducible refine' w_first ?C ?h ?_); (case C => assumption); (case h => rfl)) | ((with_reducible refine' w_mText ?h ?R ?C ?wf ?e ?_); (case h => rfl); (case R => assumption); (case C => assumption); (case wf => assumption); (case e => rfl)) | ((with_reducible refine' w_mRows ?h ?R ?C ?wf ?e ?_); (case h => rfl); (case R => assumption); (case C => assumption); (case wf => assumption); (case e => rfl)) | ((with_reducible refine' w_mAt ?h ?R ?C ?wf ?e ?_); (case h => rfl); (case R => assumption); (case C => assumption); (case wf => assumption); (case e => rfl)) | ((with_reducible refine' w_mChosen ?h ?R ?C ?wf ?e ?_); (case h => rfl); (case R => assumption); (case C => assumption); (case wf => assumption); (case e => rfl)) | ((with_reducible refine' w_mChosenT ?h ?R ?C ?wf ?e ?_); (case h => rfl); (case R => assumption); (case C => assumption); (case wf => assumption); (case e => rfl)) | ((with_reducible refine' w_mView ?h ?R ?C ?wf ?e ?_); (case h => rfl); (case R => assumption); (case C => assumption); (case wf => assumption); (case e => rfl)) | ((with_reducible refine' w_m_text ?h ?_); (case h => rfl)) | ((with_reducible refine' w_m_width ?h ?_); (case h => rfl)) | ((with_reducible refine' w_m_height ?h ?_); (case h => rfl)) | ((with_reducible refine' w_m_caret ?h ?_); (case h => rfl)) | ((with_reducible refine' w_m_back ?h ?_); (case h => rfl)) | ((with_reducible refine' w_m_anchor ?h ?_); (case h => rfl)) | ((with_reducible refine' w_m_wish ?h ?_); (case h => rfl)) | ((with_reducible refine' w_m_first ?h ?_); (case h => rfl)))
local macro_rules | `(tactic| walk_at "xs") => `(tactic| repeat (first | with_reducible refine t_seq ?_ | with_reducible refine t_ret ?_ | with_reducible refine t_set ?_ | with_reducible refine t_drop ?_ | with_reducible refine t_if ?_ | with_reducible refine t_next ?_ | with_reducible refine t_raise ?_ | with_reducible refine t_asg ?_ | with_reducible refine t_retN ?_ | with_reducible refine w_op ?_ | ((with_reducible refine' w_var ?h ?_); (case h => rfl)) | ((with_reducible refine' w_own ?h ?_); (case h => rfl)) | with_reducible refine w_int ?_ | ((with_reducible refine' w_k ?h ?_); (case h => decide +kernel)) | with_reducible refine w_bl ?_ | with_reducible refine w_non ?_ | with_reducible refine w_if ?_ | with_reducible refine w_andV ?_ | with_reducible refine w_orV ?_ | with_reducible refine w_notV ?_ | with_reducible refine w_tup ?_ | with_reducible refine w_lst ?_ | with_reducible refine w_cb ?_ | with_reducible refine w_chain ?_ | with_reducible refine w_slS ?_ | with_reducible refine w_slL ?_ | with_reducible refine w_find1 ?_ | with_reducible refine w_find2 ?_ | with_reducible refine w_rfind1 ?_ | with_reducible refine w_rfind3 ?_ | with_reducible refine w_neg ?_ | with_reducible refine w_ref ?_ | with_reducible refine w_ty ?_ | with_reducible refine wt_test ?_ | with_reducible refine wt_B ?_ | with_reducible refine wt_and ?_ | with_reducible refine wt_or ?_ | with_reducible refine wt_not ?_ | with_reducible refine wt_yes ?_ | with_reducible refine wd_nil ?_ | with_reducible refine wd_cons ?_ | with_reducible refine wa_nil ?_ | with_reducible refine wa_cons ?_ | with_reducible refine wo_none ?_ | with_reducible refine wo_some ?_ | with_reducible refine rd_I0i ?_ | with_reducible refine rd_I0b ?_ | with_reducible refine rd_eqI ?_ | with_reducible refine rd_neI ?_ | with_reducible refine rd_eqS ?_ | with_reducible refine rd_neS ?_ | with_reducible refine rd_isN ?_ | with_reducible refine rd_notN ?_ | with_reducible refine rd_inSign ?_ | with_reducible refine cd_lenL ?_ | ((with_reducible refine' cd_lenS ?h ?_); (case h => first | assumption | omega)) | with_reducible refine cd_lenT ?_ | with_reducible refine cd_lenR ?_ | with_reducible refine cd_abs ?_ | with_reducible refine cd_max2 ?_ | with_reducible refine cd_min2 ?_ | with_reducible refine cd_intB ?_ | with_reducible refine cd_ord ?_ | with_reducible refine g_name ?_ | with_reducible refine ⟨_, rfl, ?_⟩ | with_reducible refine rd_leS ?_ | ((with_reducible refine' w_now ?C ?h ?_); (case C => assumption); (case h => rfl)) | ((with_reducible refine' w_width ?C ?h ?_); (case C => assumption); (case h => rfl)) | ((with_reducible refine' w_height ?C ?h ?_); (case C => assumption); (case h => rfl)) | ((with_reducible refine' w_caret ?C ?h ?_); (case C => assumption); (case h => rfl)) | ((with_reducible refine' w_is_back ?C ?h ?_); (case C => assumption); (case h => rfl)) | ((with_reducible refine' w_anchor ?C ?h ?_); (case C => assumption); (case h => rfl)) | ((with_reducible refine' w_wish ?C ?h ?_); (case C => assumption); (case h => rfl)) | ((with_reducible refine' w_first ?C ?h ?_); (case C => assumption); (case h => rfl)) | ((with_reducible refine' w_mText ?h ?R ?C ?wf ?e ?_); (case h => rfl); (case R => assumption); (case C => assumption); (case wf => assumption); (case e => rfl)) | ((with_reducible refine' w_mRows ?h ?R ?C ?wf ?e ?_); (case h => rfl); (case R => assumption); (case C => assumption); (case wf => assumption); (case e => rfl)) | ((with_reducible refine' w_mAt ?h ?R ?C ?wf ?e ?_); (case h => rfl); (case R => assumption); (case C => assumption); (case wf => assumption); (case e => rfl)) | ((with_reducible refine' w_mChosen ?h ?R ?C ?wf ?e ?_); (case h => rfl); (case R => assumption); (case C => assumption); (case wf => assumption); (case e => rfl)) | ((with_reducible refine' w_mChosenT ?h ?R ?C ?wf ?e ?_); (case h => rfl); (case R => assumption); (case C => assumption); (case wf => assumption); (case e => rfl)) | ((with_reducible refine' w_mView ?h ?R ?C ?wf ?e ?_); (case h => rfl); (case R => assumption); (case C => assumption); (case wf => assumption); (case e => rfl)) | ((with_reducible refine' w_m_text ?h ?_); (case h => rfl)) | ((with_reducible refine' w_m_width ?h ?_); (case h => rfl)) | ((with_reducible refine' w_m_height ?h ?_); (case h => rfl)) | ((with_reducible refine' w_m_caret ?h ?_); (case h => rfl)) | ((with_reducible refine' w_m_back ?h ?_); (case h => rfl)) | ((with_reducible refine' w_m_anchor ?h ?_); (case h => rfl)) | ((with_reducible refine' w_m_wish ?h ?_); (case h => rfl)) | ((with_reducible refine' w_m_first ?h ?_); (case h => rfl)) | simp only [List.set_cons_succ, List.set_cons_zero]))
theorem alpha_ok : ∀ c, c < 127 → Txt.isalpha (S [c]) = decide ((97 ≤ c ∧ c ≤ 122) ∨ (65 ≤ c ∧ c ≤ 90)) := by decide +kernel
theorem digits_mem (c : Nat) : decide (c ∈ [48, 49, 50, 51, 52, 53, 54, 55, 56, 57]) = decide (48 ≤ c ∧ c ≤ 57) := by
  refine decide_eq_decide.mpr ⟨fun h => ?_, fun h => ?_⟩
  · simp only [List.mem_cons, List.not_mem_nil, or_false] at h
    omega
  · simp only [List.mem_cons, List.not_mem_nil, or_false]
    omega
def f__law_letter (K : PySem.W.Frag) : FP := fun ds R _ => ∃ (t : List Nat) (o : Int), ds = [.str t, .int o] ∧ isText t = true ∧ R (.bl (letAt t o))
abbrev sp__law_letter (K : PySem.W.Frag) : Sp := SpOf K (PF (f__law_letter K))
def t__law_letter (K : PySem.W.Frag) (E : XK) : TS := (tRet (tAndV (tChain rLe' rLt' (tC (.int 0)) (tVar 1) (tCB (rLen K) (tCons (tVar 0) tNil))) (tOrV (tBM0 K "str" rIsalpha (tOp rIxS (tVar 0) (tVar 1))) (tOp rInSign (tOp rIxS (tVar 0) (tVar 1)) (tK [48, 49, 50, 51, 52, 53, 54, 55, 56, 57] "0123456789")))))
theorem len_f__law_letter {K : PySem.W.Frag} : ∀ ds R X, f__law_letter K ds R X → ds.length = 2 := by
  rintro ds R X ⟨_, _, rfl, _⟩
  rfl
theorem len__law_letter {K : PySem.W.Frag} : ∀ vs H Q E, sp__law_letter K vs H Q E → vs.length = 2 := fun _ _ _ _ h => spOf_len (pf_len len_f__law_letter) h
theorem pure__law_letter {K : PySem.W.Frag} {vs : List V} {H : Hp} {Q : VK} {E : XK} (h : sp__law_letter K vs H Q E) : t__law_letter K E { nx := fun _ H' => Q .non H', rt := Q } (L2.start ["text", "offset"] vs) H := by
  refine bodyP (ts := t__law_letter K) 2 0 rfl len_f__law_letter (fun ds R X ⟨t, o, e, it, hk⟩ => ?_) h
  subst e
  show T K _ (t__law_letter K E) [some (.d (.str t)), some (.d (.int o))] _ _ _
  unfold t__law_letter
  have hl := text_len it
  walk_at "xs"
  refine ⟨fun hb => ?_, fun hb => ?_⟩
  · have hb := of_decide_eq_true hb
    obtain ⟨u, rfl⟩ : ∃ u : Nat, o = (u : Int) := ⟨o.toNat, by omega⟩
    rw [letAt_nat] at hk
    walk_at "xs"
    refine ⟨fun hc => ?_, fun hc => ?_⟩
    · have hc := of_decide_eq_true hc
      obtain ⟨c, hcc⟩ : ∃ c, t[u]? = some c := ⟨_, List.getElem?_eq_getElem (by omega)⟩
      have ho := text_ok it c (List.mem_of_getElem? hcc)
      have hlt : c < 127 := by
        unfold okSign at ho
        have := of_decide_eq_true ho
        omega
      rw [hcc] at hk
      have hk : RetD K 2 (.d (.bl (isLet c))) [some (.d (.str t)), some (.d (.int (u : Int)))] R := hk
      refine w_orV (w_isalpha (w_op (w_var rfl (w_var rfl (rd_ixS (by omega) (atI_nat hcc) ⟨_, rfl, _, rfl, fun ha => ?_, fun ha => ?_⟩)))))
      · rw [alpha_ok c hlt] at ha
        have ha := of_decide_eq_true ha
        have : isLet c = true := by unfold isLet; exact decide_eq_true (by omega)
        rw [this] at hk
        exact hk
      · rw [alpha_ok c hlt] at ha
        have ha := of_decide_eq_false ha
        refine w_op (w_op (w_var rfl (w_var rfl (rd_ixS (by omega) (atI_nat hcc) (w_k (by decide +kernel) (rd_inSign ?_))))))
        rw [digits_mem]
        have : isLet c = decide (48 ≤ c ∧ c ≤ 57) := by unfold isLet; exact decide_eq_decide.mpr (by omega)
        rw [← this]
        exact hk
    · have hc := of_decide_eq_false hc
      rw [List.getElem?_eq_none (by omega)] at hk
      exact hk
  · have hb := of_decide_eq_false hb
    unfold letAt at hk
    rw [decide_eq_false hb, Bool.false_and] at hk
    refine ⟨_, rfl, (fun z => nomatch z), fun _ => hk⟩
theorem ran_map2 (a n : Nat) : ran (a : Int) n = (List.range' a n).map fun (k : Nat) => Da.int (k : Int) := by
  unfold ran
  rw [List.range'_eq_map_range, List.map_map]
  refine List.map_congr_left fun k _ => ?_
  show Da.int ((a : Int) + (k : Int)) = Da.int (((a + k : Nat)) : Int)
  rw [Int.natCast_add]
section
variable {K : PySem.W.Frag} {E : WX} {δ : Dl} {P : PX} {X : XX}
theorem nats_map (ls : List Nat) : (ls.map fun (k : Nat) => Da.int (k : Int)) = (ls.map fun (k : Nat) => (k : Int)).map Da.int := by
  rw [List.map_map]
  rfl
theorem cd_minN {ls : List Nat} {m : Nat} (hm : m ∈ ls) (hx : ∀ y ∈ ls, m ≤ y) (k : P (.d (.int ((m : Nat) : Int))) δ) : CD K E (rMin K) [.d (.lst (ls.map fun (k : Nat) => Da.int (k : Int)))] δ P X := by
  rw [nats_map]
  refine cd_min (List.mem_map_of_mem hm) (fun y hy => ?_) k
  obtain ⟨z, hz, rfl⟩ := List.mem_map.mp hy
  have := hx z hz
  omega
theorem cd_maxN {ls : List Nat} {m : Nat} (hm : m ∈ ls) (hx : ∀ y ∈ ls, y ≤ m) (k : P (.d (.int ((m : Nat) : Int))) δ) : CD K E (rMax K) [.d (.lst (ls.map fun (k : Nat) => Da.int (k : Int)))] δ P X := by
  rw [nats_map]
  refine cd_max (List.mem_map_of_mem hm) (fun y hy => ?_) k
  obtain ⟨z, hz, rfl⟩ := List.mem_map.mp hy
  have := hx z hz
  omega
end
def f__law_flat (K : PySem.W.Frag) : FP := fun ds R _ => ∃ (t : List Nat) (c : Nat) (mv : List Nat), ds = [.str t, .int c, .str mv] ∧ isText t = true ∧ c ≤ t.length ∧ R (.int ((flatF t c mv : Nat) : Int))
abbrev sp__law_flat (K : PySem.W.Frag) : Sp := SpOf K (PF (f__law_flat K))
def t__law_flat (K : PySem.W.Frag) (E : XK) : TS := (tSeq (tIfS (tTest (tOp (rIn K false) (tVar 2) (tTup (tCons (tK [108, 101, 102, 116] "left") (tCons (tK [114, 105, 103, 104, 116] "right") tNil))))) (tRet (tIf (tTest (tOp rEq (tVar 2) (tK [108, 101, 102, 116] "left"))) (tCB rMx2 (tCons (tC (.int 0)) (tCons (tOp rMinus (tVar 1) (tC (.int 1))) tNil))) (tCB rMn2 (tCons (tCB (rLen K) (tCons (tVar 0) tNil)) (tCons (tOp rPlus (tVar 1) (tC (.int 1))) tNil))))) tNext)
  (tSeq (tIfS (tTest (tOp (rIn K false) (tVar 2) (tTup (tCons (tK [116, 111, 112] "top") (tCons (tK [98, 111, 116, 116, 111, 109] "bottom") tNil))))) (tRet (tIf (tTest (tOp rEq (tVar 2) (tK [116, 111, 112] "top"))) (tC (.int 0)) (tCB (rLen K) (tCons (tVar 0) tNil)))) tNext)
  (tSeq (tIfS (tTest (tOp rEq (tVar 2) (tK [119, 111, 114, 100, 114, 105, 103, 104, 116] "wordright"))) (tSeq (tAsg (tLc (iRng2 (tCons (tOp rPlus (tVar 1) (tC (.int 1))) (tCons (tOp rPlus (tCB (rLen K) (tCons (tVar 0) tNil)) (tC (.int 1))) tNil))) (gName 4) (tAnd (tB (tCall (sp__law_letter K) [] L2.E0 (tCons (tVar 0) (tCons (tOp rMinus (tVar 4) (tC (.int 1))) tNil)))) (tNot (tB (tCall (sp__law_letter K) [] L2.E0 (tCons (tVar 0) (tCons (tVar 4) tNil)))))) (tVar 4) [4]) (gName 3))
  (tRet (tCB (rMin K) (tCons (tOp rCat (tVar 3) (tLst (tCons (tCB (rLen K) (tCons (tVar 0) tNil)) tNil))) tNil)))) tNext)
  (tSeq (tIfS (tTest (tOp rEq (tVar 2) (tK [119, 111, 114, 100, 108, 101, 102, 116] "wordleft"))) (tSeq (tAsg (tLc (iRng1 (tCons (tVar 1) tNil)) (gName 4) (tAnd (tB (tCall (sp__law_letter K) [] L2.E0 (tCons (tVar 0) (tCons (tVar 4) tNil)))) (tNot (tB (tCall (sp__law_letter K) [] L2.E0 (tCons (tVar 0) (tCons (tOp rMinus (tVar 4) (tC (.int 1))) tNil)))))) (tVar 4) [4]) (gName 3))
  (tRet (tCB (rMax K) (tCons (tOp rCat (tVar 3) (tLst (tCons (tC (.int 0)) tNil))) tNil)))) tNext)
  (tSeq (tIfS (tTest (tOp rEq (tVar 2) (tK [112, 97, 114, 97, 117, 112] "paraup"))) (tRet (tCB (rMax K) (tCons (tOp rCat (tLst (tCons (tC (.int 0)) tNil)) (tLc (iRng2 (tCons (tC (.int 1)) (tCons (tVar 1) tNil))) (gName 4) (tTest (tOp rEq (tOp rIxS (tVar 0) (tOp rMinus (tVar 4) (tC (.int 1)))) (tK [10] "\n"))) (tVar 4) [4])) tNil))) tNext)
  (tRet (tCB (rMin K) (tCons (tOp rCat (tLst (tCons (tCB (rLen K) (tCons (tVar 0) tNil)) tNil)) (tLc (iRng2 (tCons (tOp rPlus (tVar 1) (tC (.int 1))) (tCons (tCB (rLen K) (tCons (tVar 0) tNil)) tNil))) (gName 4) (tTest (tOp rEq (tOp rIxS (tVar 0) (tVar 4)) (tK [10] "\n"))) (tVar 4) [4])) tNil))))))))
theorem len_f__law_flat {K : PySem.W.Frag} : ∀ ds R X, f__law_flat K ds R X → ds.length = 3 := by
  rintro ds R X ⟨_, _, _, rfl, _⟩
  rfl
theorem len__law_flat {K : PySem.W.Frag} : ∀ vs H Q E, sp__law_flat K vs H Q E → vs.length = 3 := fun _ _ _ _ h => spOf_len (pf_len len_f__law_flat) h
def qWR (t : List Nat) (k : Nat) : Bool := letAt t ((k : Int) - 1) && !letAt t (k : Int)
def qWL (t : List Nat) (k : Nat) : Bool := letAt t (k : Int) && !letAt t ((k : Int) - 1)
def qPU (t : List Nat) (k : Nat) : Bool := decide (t[k - 1]? = some 10)
def qPD (t : List Nat) (k : Nat) : Bool := decide (t[k]? = some 10)
theorem let_neg {t : List Nat} {k : Nat} (h : letAt t ((k : Int) - 1) = true) : 0 < k := Nat.pos_of_ne_zero fun z => by
  rw [z] at h
  unfold letAt at h
  rw [decide_eq_false (by decide), Bool.false_and] at h
  exact nomatch h
theorem pred_cast {k : Nat} (h : 0 < k) : (k : Int) - 1 = ((k - 1 : Nat) : Int) := by omega
theorem pure__law_flat {K : PySem.W.Frag} {vs : List V} {H : Hp} {Q : VK} {E : XK} (h : sp__law_flat K vs H Q E) : t__law_flat K E { nx := fun _ H' => Q .non H', rt := Q } (L2.start ["text", "caret", "move", "some", "k"] vs) H := by
  refine bodyP (ts := t__law_flat K) 3 2 rfl len_f__law_flat (fun ds R X ⟨t, c, mv, e, it, hc, hk⟩ => ?_) h
  subst e
  show T K _ (t__law_flat K E) [some (.d (.str t)), some (.d (.int c)), some (.d (.str mv)), none, none] _ _ _
  unfold t__law_flat
  have hl := text_len it
  have hfg := flatF_fg hc mv
  generalize flatF t c mv = e at hk hfg
  unfold FG at hfg
  walk_at "xs"
  refine ⟨by show 2 ≤ 16000000; decide, ?_⟩
  refine rd_inT (ls := [mLeft, mRight]) ⟨_, rfl, fun hb => ?_, fun n1 => ?_⟩
  · have hb : mv ∈ [mLeft, mRight] := of_decide_eq_true hb
    walk_at "xs"
    refine ⟨fun h1 => ?_, fun h1 => ?_⟩
    · have h1 : mv = mLeft := of_decide_eq_true h1
      rw [if_pos h1] at hfg
      walk_at "xs"
      rw [mx0, ← hfg]
      exact hk
    · have h1 : ¬ mv = mLeft := of_decide_eq_false h1
      have h2 : mv = mRight := by simpa [h1] using hb
      rw [if_neg h1, if_pos h2] at hfg
      walk_at "xs"
      have e1 : (if ((c : Int) + 1) < (t.length : Int) then ((c : Int) + 1) else (t.length : Int)) = ((min t.length (c + 1) : Nat) : Int) := by split <;> omega
      rw [e1, ← hfg]
      exact hk
  have n1 : ¬ mv ∈ [mLeft, mRight] := of_decide_eq_false n1
  have n2 : ¬ mv = mLeft := fun z => n1 (by rw [z]; exact List.mem_cons_self)
  have n3 : ¬ mv = mRight := fun z => n1 (by rw [z]; exact List.mem_cons_of_mem _ List.mem_cons_self)
  rw [if_neg n2, if_neg n3] at hfg
  walk_at "xs"
  refine ⟨by show 2 ≤ 16000000; decide, ?_⟩
  refine rd_inT (ls := [mTop, mBot]) ⟨_, rfl, fun hb => ?_, fun n4 => ?_⟩
  · have hb : mv ∈ [mTop, mBot] := of_decide_eq_true hb
    have ex : mv = mTop ∨ mv = mBot := by simpa using hb
    have x1 : ¬ mv = mWL := by rcases ex with rfl | rfl <;> decide
    have x2 : ¬ mv = mWR := by rcases ex with rfl | rfl <;> decide
    rw [if_neg x1, if_neg x2] at hfg
    walk_at "xs"
    refine ⟨fun h1 => ?_, fun h1 => ?_⟩
    · have h1 : mv = mTop := of_decide_eq_true h1
      rw [if_pos h1] at hfg
      walk_at "xs"
      rw [hfg] at hk
      exact hk
    · have h1 : ¬ mv = mTop := of_decide_eq_false h1
      have h2 : mv = mBot := by simpa [h1] using hb
      rw [if_neg h1, if_pos h2] at hfg
      walk_at "xs"
      rw [hfg] at hk
      exact hk
  have n4 : ¬ mv ∈ [mTop, mBot] := of_decide_eq_false n4
  have n5 : ¬ mv = mTop := fun z => n4 (by rw [z]; exact List.mem_cons_self)
  have n6 : ¬ mv = mBot := fun z => n4 (by rw [z]; exact List.mem_cons_of_mem _ List.mem_cons_self)
  walk_at "xs"
  refine ⟨fun h1 => ?_, fun h1 => ?_⟩
  · have h1 : mv = mWR := of_decide_eq_true h1
    have x1 : ¬ mv = mWL := by rw [h1]; decide
    rw [if_neg x1, if_pos h1] at hfg
    obtain ⟨b, b1, b2, b3, b4, b5, b6, b7⟩ := hfg.ex
    refine t_seq (t_set (w_lcP (kI (qWR t)) (wi_rng2 ?_)))
    walk_at "xs"
    have e1 : ((c + 1 : Nat) : Int) = (c : Int) + 1 := by omega
    have e2 : ((t.length : Int) + 1 - ((c : Int) + 1)).toNat = t.length - c := by omega
    refine ⟨(c : Int) + 1, (t.length : Int) + 1, rfl, ⟨by omega, by omega, by omega, by omega⟩, noneAt1 rfl, by rw [ran_len]; omega, fun i d hd => ?_, ?_⟩
    · rw [e2] at hd
      have hi : i < t.length - c := by
        have := (List.getElem?_eq_some_iff.mp hd).1
        rw [ran_len] at this
        exact this
      rw [ran_get hi] at hd
      cases hd
      have e3 : (c : Int) + 1 + (i : Int) = ((c + 1 + i : Nat) : Int) := by omega
      rw [e3]
      refine gv_name (by simp) ?_
      refine wt_and (wt_B (w_fn ?_))
      walk_at "xs"
      refine ⟨t, _, rfl, it, _, rfl, fun ha => ?_, fun ha => ?_⟩
      · refine wt_not (wt_B (w_fn ?_))
        walk_at "xs"
        refine ⟨t, _, rfl, it, _, rfl, fun hb => ?_, fun hb => ?_⟩
        · have hq : qWR t (c + 1 + i) = true := by unfold qWR; rw [ha, hb]; rfl
          walk_at "xs"
          exact ⟨kI_t hq, rfl⟩
        · have hq : qWR t (c + 1 + i) = false := by unfold qWR; rw [ha, hb]; rfl
          exact ⟨kI_f hq, rfl⟩
      · have hq : qWR t (c + 1 + i) = false := by unfold qWR; rw [ha]; rfl
        exact ⟨(fun z => nomatch z), fun _ => ⟨kI_f hq, rfl⟩⟩
    rw [e2, ← e1, ran_map2, filter_ints]
    refine ⟨_, rfl, ?_⟩
    refine t_ret (w_cb (wa_cons ?_))
    have hmm : e ∈ (List.range' (c + 1) (t.length - c)).filter (qWR t) ++ [t.length] ∧ ∀ y ∈ (List.range' (c + 1) (t.length - c)).filter (qWR t) ++ [t.length], e ≤ y := by
      constructor
      · rw [List.mem_append]
        rcases b6 with z | z
        · right
          rw [List.mem_singleton]
          omega
        · left
          have hbe : b < e := by
            rcases Nat.lt_or_ge b e with q | q
            · exact q
            · have : b = e := by omega
              rw [this, b7] at z
              exact nomatch z
          refine List.mem_filter.mpr ⟨List.mem_range'_1.mpr ⟨by omega, by omega⟩, ?_⟩
          unfold qWR
          rw [pred_cast (by omega), b5 (e - 1) (by omega) (by omega), b7]
          rfl
      · intro y hy
        rcases List.mem_append.mp hy with hy | hy
        · obtain ⟨h2, h3⟩ := List.mem_filter.mp hy
          have h2 := List.mem_range'_1.mp h2
          unfold qWR at h3
          rw [Bool.and_eq_true] at h3
          obtain ⟨h4, h5⟩ := h3
          rw [pred_cast (by omega)] at h4
          have h5 : letAt t (y : Int) = false := by simpa using h5
          have hyb : b ≤ y - 1 := by
            rcases Nat.lt_or_ge (y - 1) b with q | q
            · rw [b4 (y - 1) (by omega) q] at h4
              exact nomatch h4
            · exact q
          rcases Nat.lt_or_ge y e with q | q
          · rw [b5 y (by omega) q] at h5
            exact nomatch h5
          · exact q
        · rw [List.mem_singleton] at hy
          omega
    walk_at "xs"
    refine ⟨by show 1 ≤ 16000000; decide, ?_⟩
    refine rd_cat (by rw [List.length_map]; have := List.length_filter_le (qWR t) (List.range' (c + 1) (t.length - c)); rw [List.length_range'] at this; show _ + 1 ≤ _; omega) ?_
    walk_at "xs"
    have e5 : ((List.range' (c + 1) (t.length - c)).filter (qWR t)).map (fun (k : Nat) => Da.int (k : Int)) ++ [Da.int (t.length : Int)] = ((List.range' (c + 1) (t.length - c)).filter (qWR t) ++ [t.length]).map fun (k : Nat) => Da.int (k : Int) := by rw [List.map_append]; rfl
    rw [e5]
    exact cd_minN hmm.1 hmm.2 hk
  have h1 : ¬ mv = mWR := of_decide_eq_false h1
  walk_at "xs"
  refine ⟨fun h2 => ?_, fun h2 => ?_⟩
  · have h2 : mv = mWL := of_decide_eq_true h2
    rw [if_pos h2] at hfg
    obtain ⟨b, b1, b2, b4, b5, b6, b7⟩ := hfg.ex
    refine t_seq (t_set (w_lcP (kI (qWL t)) (wi_rng1 ?_)))
    walk_at "xs"
    refine ⟨by omega, by omega, noneAt1 rfl, by rw [ran_len]; omega, fun i d hd => ?_, ?_⟩
    · have hi : i < c := by
        have := (List.getElem?_eq_some_iff.mp hd).1
        rw [ran_len] at this
        omega
      rw [ran_get (by omega), Int.zero_add] at hd
      cases hd
      refine gv_name (by simp) ?_
      refine wt_and (wt_B (w_fn ?_))
      walk_at "xs"
      refine ⟨t, _, rfl, it, _, rfl, fun ha => ?_, fun ha => ?_⟩
      · refine wt_not (wt_B (w_fn ?_))
        walk_at "xs"
        refine ⟨t, _, rfl, it, _, rfl, fun hb => ?_, fun hb => ?_⟩
        · have hq : qWL t i = true := by unfold qWL; rw [ha, hb]; rfl
          walk_at "xs"
          exact ⟨kI_t hq, rfl⟩
        · have hq : qWL t i = false := by unfold qWL; rw [ha, hb]; rfl
          exact ⟨kI_f hq, rfl⟩
      · have hq : qWL t i = false := by unfold qWL; rw [ha]; rfl
        exact ⟨(fun z => nomatch z), fun _ => ⟨kI_f hq, rfl⟩⟩
    rw [Int.toNat_natCast, ran_map, filter_ints]
    refine ⟨_, rfl, ?_⟩
    refine t_ret (w_cb (wa_cons ?_))
    have hmm : e ∈ (List.range c).filter (qWL t) ++ [0] ∧ ∀ y ∈ (List.range c).filter (qWL t) ++ [0], y ≤ e := by
      constructor
      · rw [List.mem_append]
        rcases b6 with z | z
        · right
          rw [List.mem_singleton]
          omega
        · left
          have hb0 := let_neg z
          have hbe : e < b := by
            rcases Nat.lt_or_ge e b with q | q
            · exact q
            · have : b = e := by omega
              rw [this, b7] at z
              exact nomatch z
          refine List.mem_filter.mpr ⟨List.mem_range.mpr (by omega), ?_⟩
          unfold qWL
          rw [b5 e (by omega) hbe, b7]
          rfl
      · intro y hy
        rcases List.mem_append.mp hy with hy | hy
        · obtain ⟨h2, h3⟩ := List.mem_filter.mp hy
          have h2 := List.mem_range.mp h2
          unfold qWL at h3
          rw [Bool.and_eq_true] at h3
          obtain ⟨h4, h5⟩ := h3
          have h5 : letAt t ((y : Int) - 1) = false := by simpa using h5
          have hyb : y < b := by
            rcases Nat.lt_or_ge y b with q | q
            · exact q
            · rw [b4 y q h2] at h4
              exact nomatch h4
          rcases Nat.lt_or_ge e y with q | q
          · rw [pred_cast (by omega), b5 (y - 1) (by omega) (by omega)] at h5
            exact nomatch h5
          · exact q
        · rw [List.mem_singleton] at hy
          omega
    walk_at "xs"
    refine ⟨by show 1 ≤ 16000000; decide, ?_⟩
    refine rd_cat (by rw [List.length_map]; have := List.length_filter_le (qWL t) (List.range c); rw [List.length_range] at this; show _ + 1 ≤ _; omega) ?_
    walk_at "xs"
    have e5 : ((List.range c).filter (qWL t)).map (fun (k : Nat) => Da.int (k : Int)) ++ [Da.int 0] = ((List.range c).filter (qWL t) ++ [0]).map fun (k : Nat) => Da.int (k : Int) := by rw [List.map_append]; rfl
    rw [e5]
    exact cd_maxN hmm.1 hmm.2 hk
  have h2 : ¬ mv = mWL := of_decide_eq_false h2
  rw [if_neg h2, if_neg h1, if_neg n5, if_neg n6] at hfg
  walk_at "xs"
  refine ⟨fun h3 => ?_, fun h3 => t_next ?_⟩
  · have h3 : mv = mPU := of_decide_eq_true h3
    rw [if_pos h3] at hfg
    refine t_ret (w_cb (wa_cons ?_))
    walk_at "xs"
    refine ⟨by show 1 ≤ 16000000; decide, ?_⟩
    refine w_lcP (kI (qPU t)) (wi_rng2 ?_)
    walk_at "xs"
    have e2 : ((c : Int) - 1).toNat = c - 1 := by omega
    refine ⟨1, (c : Int), rfl, ⟨by omega, by omega, by omega, by omega⟩, noneAt1 rfl, by rw [ran_len]; omega, fun i d hd => ?_, ?_⟩
    · rw [e2] at hd
      have hi : i < c - 1 := by
        have := (List.getElem?_eq_some_iff.mp hd).1
        rw [ran_len] at this
        exact this
      rw [ran_get hi] at hd
      cases hd
      have e3 : (1 : Int) + (i : Int) = ((i + 1 : Nat) : Int) := by omega
      rw [e3]
      obtain ⟨x, hx⟩ : ∃ x, t[i]? = some x := ⟨_, List.getElem?_eq_getElem (by omega)⟩
      refine gv_name (by simp) ?_
      walk_at "xs"
      have e4 : ((i + 1 : Nat) : Int) - 1 = (i : Int) := by omega
      rw [e4]
      refine rd_ixS (by omega) (atI_nat hx) ?_
      walk_at "xs"
      have e6 : qPU t (i + 1) = decide ([x] = [10]) := by
        unfold qPU
        rw [Nat.add_sub_cancel, hx]
        exact decide_eq_decide.mpr (by simp)
      refine ⟨fun hb => ?_, fun hb => ?_⟩
      · walk_at "xs"
        exact ⟨kI_t (by rw [e6]; exact hb), rfl⟩
      · exact ⟨kI_f (by rw [e6]; exact hb), rfl⟩
    have e1 : ((1 : Nat) : Int) = 1 := rfl
    rw [e2, ← e1, ran_map2, filter_ints]
    refine rd_cat (by rw [List.length_map]; have := List.length_filter_le (qPU t) (List.range' 1 (c - 1)); rw [List.length_range'] at this; show 1 + _ ≤ _; omega) ?_
    walk_at "xs"
    have e5 : [Da.int 0] ++ ((List.range' 1 (c - 1)).filter (qPU t)).map (fun (k : Nat) => Da.int (k : Int)) = ([0] ++ (List.range' 1 (c - 1)).filter (qPU t)).map fun (k : Nat) => Da.int (k : Int) := by rw [List.map_append]; rfl
    rw [e5]
    refine cd_maxN ?_ ?_ hk
    · rcases hfg.at_ with z | ⟨z1, z2, z3⟩
      · rw [z]
        exact List.mem_append_left _ List.mem_cons_self
      · exact List.mem_append_right _ (List.mem_filter.mpr ⟨List.mem_range'_1.mpr ⟨z1, by omega⟩, decide_eq_true z3⟩)
    · intro y hy
      rcases List.mem_append.mp hy with hy | hy
      · rw [List.mem_singleton] at hy
        omega
      · obtain ⟨y1, y2⟩ := List.mem_filter.mp hy
        have y1 := List.mem_range'_1.mp y1
        exact hfg.no y y1.1 (by omega) (of_decide_eq_true y2)
  have h3 : ¬ mv = mPU := of_decide_eq_false h3
  rw [if_neg h3] at hfg
  refine t_ret (w_cb (wa_cons ?_))
  walk_at "xs"
  refine ⟨by show 1 ≤ 16000000; decide, ?_⟩
  refine w_lcP (kI (qPD t)) (wi_rng2 ?_)
  walk_at "xs"
  have e2 : ((t.length : Int) - ((c : Int) + 1)).toNat = t.length - (c + 1) := by omega
  refine ⟨(c : Int) + 1, (t.length : Int), rfl, ⟨by omega, by omega, by omega, by omega⟩, noneAt1 rfl, by rw [ran_len]; omega, fun i d hd => ?_, ?_⟩
  · rw [e2] at hd
    have hi : i < t.length - (c + 1) := by
      have := (List.getElem?_eq_some_iff.mp hd).1
      rw [ran_len] at this
      exact this
    rw [ran_get hi] at hd
    cases hd
    have e3 : (c : Int) + 1 + (i : Int) = ((c + 1 + i : Nat) : Int) := by omega
    rw [e3]
    obtain ⟨x, hx⟩ : ∃ x, t[c + 1 + i]? = some x := ⟨_, List.getElem?_eq_getElem (by omega)⟩
    refine gv_name (by simp) ?_
    walk_at "xs"
    refine rd_ixS (by omega) (atI_nat hx) ?_
    walk_at "xs"
    have e6 : qPD t (c + 1 + i) = decide ([x] = [10]) := by
      unfold qPD
      rw [hx]
      exact decide_eq_decide.mpr (by simp)
    refine ⟨fun hb => ?_, fun hb => ?_⟩
    · walk_at "xs"
      exact ⟨kI_t (by rw [e6]; exact hb), rfl⟩
    · exact ⟨kI_f (by rw [e6]; exact hb), rfl⟩
  have e1 : ((c + 1 : Nat) : Int) = (c : Int) + 1 := by omega
  rw [e2, ← e1, ran_map2, filter_ints]
  refine rd_cat (by rw [List.length_map]; have := List.length_filter_le (qPD t) (List.range' (c + 1) (t.length - (c + 1))); rw [List.length_range'] at this; show 1 + _ ≤ _; omega) ?_
  walk_at "xs"
  have e5 : [Da.int (t.length : Int)] ++ ((List.range' (c + 1) (t.length - (c + 1))).filter (qPD t)).map (fun (k : Nat) => Da.int (k : Int)) = ([t.length] ++ (List.range' (c + 1) (t.length - (c + 1))).filter (qPD t)).map fun (k : Nat) => Da.int (k : Int) := by rw [List.map_append]; rfl
  rw [e5]
  refine cd_minN ?_ ?_ hk
  · rcases hfg.at_ with z | ⟨z1, z2, z3⟩
    · rw [z]
      exact List.mem_append_left _ List.mem_cons_self
    · exact List.mem_append_right _ (List.mem_filter.mpr ⟨List.mem_range'_1.mpr ⟨z1, by omega⟩, decide_eq_true z3⟩)
  · intro y hy
    have el : e ≤ t.length := by rcases hfg.at_ with z | ⟨_, z, _⟩ <;> omega
    rcases List.mem_append.mp hy with hy | hy
    · rw [List.mem_singleton] at hy
      omega
    · obtain ⟨y1, y2⟩ := List.mem_filter.mp hy
      have y1 := List.mem_range'_1.mp y1
      exact hfg.no y (by omega) (by omega) (of_decide_eq_true y2)
end Cr

/-! More of rows: soft ends. -/
namespace Cr
open PySem L2
theorem Ch.lt : ∀ {s n : Nat} {L : List R3}, Ch s L n → ∀ {j k : Nat} {r q : R3}, j < k → L[j]? = some r → L[k]? = some q → r.2.1 ≤ q.1
  | _, _, _, .one h, j, k, r, q, hjk, h1, h2 => by
    have := (List.getElem?_eq_some_iff.mp h2).1
    simp at this
    omega
  | _, _, _, .soft h c, 0, k + 1, r, q, hjk, h1, h2 => by
    simp at h1 h2
    subst h1
    exact (c.mem q (List.mem_of_getElem? h2)).1
  | _, _, _, .hard h c, 0, k + 1, r, q, hjk, h1, h2 => by
    simp at h1 h2
    subst h1
    have := (c.mem q (List.mem_of_getElem? h2)).1
    exact Nat.le_of_succ_le this
  | _, _, _, .soft h c, j + 1, k + 1, r, q, hjk, h1, h2 => c.lt (j := j) (k := k) (by omega) (by simpa using h1) (by simpa using h2)
  | _, _, _, .hard h c, j + 1, k + 1, r, q, hjk, h1, h2 => c.lt (j := j) (k := k) (by omega) (by simpa using h1) (by simpa using h2)
theorem Ch.softNe : ∀ {s n : Nat} {L : List R3}, Ch s L n → ∀ {r : R3}, r ∈ L → r.2.2 = true → r.1 < r.2.1
  | _, _, _, .one h, r, hr, hs => by
    rw [List.mem_singleton.mp hr] at hs
    exact nomatch hs
  | _, _, _, .soft h c, r, hr, hs => by
    rcases List.mem_cons.mp hr with rfl | hr
    · exact h
    · exact c.softNe hr hs
  | _, _, _, .hard h c, r, hr, hs => by
    rcases List.mem_cons.mp hr with rfl | hr
    · exact nomatch hs
    · exact c.softNe hr hs
/-- behind a hard end the next row begins one further -/
theorem Ch.hardNext : ∀ {s n : Nat} {L : List R3}, Ch s L n → ∀ {k : Nat} {r q : R3}, L[k]? = some r → r.2.2 = false → L[k + 1]? = some q → q.1 = r.2.1 + 1
  | _, _, _, .one h, k, r, q, h1, hs, h2 => by
    have := (List.getElem?_eq_some_iff.mp h2).1
    simp at this
  | _, _, _, .soft h c, 0, r, q, h1, hs, h2 => by
    simp at h1
    subst h1
    exact nomatch hs
  | _, _, _, .hard h c, 0, r, q, h1, hs, h2 => by
    simp at h1 h2
    subst h1
    cases c with
    | one h => simp at h2; subst h2; rfl
    | soft h c => simp at h2; subst h2; rfl
    | hard h c => simp at h2; subst h2; rfl
  | _, _, _, .soft h c, k + 1, r, q, h1, hs, h2 => c.hardNext (k := k) (by simpa using h1) hs (by simpa using h2)
  | _, _, _, .hard h c, k + 1, r, q, h1, hs, h2 => c.hardNext (k := k) (by simpa using h1) hs (by simpa using h2)
/-- behind a soft end the next row goes on there -/
theorem Ch.softNext : ∀ {s n : Nat} {L : List R3}, Ch s L n → ∀ {k : Nat} {r : R3}, L[k]? = some r → r.2.2 = true → ∃ q, L[k + 1]? = some q ∧ q.1 = r.2.1
  | _, _, _, .one h, k, r, h1, hs => by
    rw [List.mem_singleton.mp (List.mem_of_getElem? h1)] at hs
    exact nomatch hs
  | _, _, _, .soft h c, 0, r, h1, hs => by
    simp at h1
    subst h1
    cases c with
    | one h => exact ⟨_, rfl, rfl⟩
    | soft h c => exact ⟨_, rfl, rfl⟩
    | hard h c => exact ⟨_, rfl, rfl⟩
  | _, _, _, .hard h c, 0, r, h1, hs => by
    simp at h1
    subst h1
    exact nomatch hs
  | _, _, _, .soft h c, k + 1, r, h1, hs => by
    obtain ⟨q, h2, h3⟩ := c.softNext (k := k) (by simpa using h1) hs
    exact ⟨q, by simpa using h2, h3⟩
  | _, _, _, .hard h c, k + 1, r, h1, hs => by
    obtain ⟨q, h2, h3⟩ := c.softNext (k := k) (by simpa using h1) hs
    exact ⟨q, by simpa using h2, h3⟩
/-- behind a soft end stands a row that isn't empty -/
def Sf : List R3 → Prop
  | [] => True
  | r :: rest => (r.2.2 = true → ∃ q rs, rest = q :: rs ∧ q.1 < q.2.1) ∧ Sf rest
theorem Sf.get : ∀ {L : List R3}, Sf L → ∀ {k : Nat} {r : R3}, L[k]? = some r → r.2.2 = true → ∃ q, L[k + 1]? = some q ∧ q.1 < q.2.1
  | [], _, k, r, h, _ => by simp at h
  | x :: rest, ⟨a, b⟩, 0, r, h, hs => by
    simp at h
    subst h
    obtain ⟨q, rs, rfl, hq⟩ := a hs
    exact ⟨q, rfl, hq⟩
  | x :: rest, ⟨a, b⟩, k + 1, r, h, hs => by
    obtain ⟨q, h1, h2⟩ := Sf.get b (k := k) (by simpa using h) hs
    exact ⟨q, by simpa using h1, h2⟩
theorem prows_first {w : Nat} (hw : 2 ≤ w) {p : List Nat} (hp : 0 < p.length) (s : Nat) : ∃ q rs, prows w s p = q :: rs ∧ q.1 < q.2.1 := by
  by_cases h : rowN w p = p.length
  · exact ⟨_, [], prows_last hw h s, by show s < s + p.length; omega⟩
  · have h1 : rowN w p < p.length ∧ 1 ≤ rowN w p := pieces_ind hw (M := fun p => rowN w p ≠ p.length → rowN w p < p.length ∧ 1 ≤ rowN w p) (fun p e n => absurd e n) (fun p a b _ _ => ⟨a, b⟩) p h
    exact ⟨_, _, prows_more hw h1.1 s, by show s < s + rowN w p; omega⟩
theorem sf_prows {w : Nat} (hw : 2 ≤ w) (p : List Nat) : ∀ s, Sf (prows w s p) ∧ ∀ {r : List R3}, Sf r → Sf (prows w s p ++ r) := by
  refine pieces_ind hw (M := fun p => ∀ s, Sf (prows w s p) ∧ ∀ {r : List R3}, Sf r → Sf (prows w s p ++ r)) (fun p h s => ?_) (fun p h hpos ih s => ?_) p
  · rw [prows_last hw h]
    exact ⟨⟨(fun z => nomatch z), trivial⟩, fun c => ⟨(fun z => nomatch z), c⟩⟩
  · rw [prows_more hw h]
    obtain ⟨i1, i2⟩ := ih (s + rowN w p)
    obtain ⟨q, rs, e, hq⟩ := prows_first hw (p := p.drop (rowN w p)) (by rw [List.length_drop]; omega) (s + rowN w p)
    exact ⟨⟨fun _ => ⟨q, rs, e, hq⟩, i1⟩, fun {r} c => ⟨fun _ => ⟨q, rs ++ r, by rw [e]; rfl, hq⟩, i2 c⟩⟩
theorem sf_rowsP {w : Nat} (hw : 2 ≤ w) : ∀ (ps : List (List Nat)) (s : Nat), Sf (rowsP w s ps)
  | [], _ => trivial
  | p :: r, s => (sf_prows hw p s).2 (sf_rowsP hw r _)
theorem sf_rowsW {w : Nat} (hw : 2 ≤ w) (t : List Nat) : Sf (rowsW w t) := sf_rowsP hw _ _
/-- a soft end, looked for back, is found -/
theorem soft_at {n : Nat} {L : List R3} (ch : Ch 0 L n) {o g : Nat} (ho : o ≤ n) (h : softE L g o = true) : rowAt L o true = g := by
  unfold softE at h
  cases e : L[g]? with
  | none => rw [e] at h; exact nomatch h
  | some r =>
    rw [e] at h
    have h : (r.2.2 && decide (o = r.2.1)) = true := h
    rw [Bool.and_eq_true] at h
    obtain ⟨h1, h2⟩ := h
    have h2 := of_decide_eq_true h2
    have a := ch.isAt ho true
    have hg : atQ o true r = true := by unfold atQ; simp [h2]
    have k1 : rowAt L o true ≤ g := by
      rcases Nat.lt_or_ge g (rowAt L o true) with q | q
      · rw [a.no g r q e] at hg
        exact nomatch hg
      · exact q
    rcases Nat.lt_or_ge (rowAt L o true) g with q | q
    · have hr := rowR_get a.lt
      have hh := (ch.holds (Nat.zero_le _) a _ hr).2
      have hl := ch.lt q hr e
      have hn := ch.softNe (List.mem_of_getElem? e) h1
      omega
    · omega
/-- of the end of a row: whether it is soft -/
theorem soft_end {n : Nat} {L : List R3} (ch : Ch 0 L n) (sf : Sf L) {k : Nat} {r : R3} (hk : L[k]? = some r) : softE L (rowAt L r.2.1 true) r.2.1 = r.2.2 := by
  have hm := ch.mem r (List.mem_of_getElem? hk)
  cases hs : r.2.2 with
  | true =>
    have : softE L k r.2.1 = true := by unfold softE; rw [hk]; simp [hs]
    rw [soft_at ch hm.2.2 this]
    exact this
  | false =>
    cases hx : softE L (rowAt L r.2.1 true) r.2.1 with
    | false => rfl
    | true =>
      exfalso
      have a := ch.isAt hm.2.2 true
      generalize rowAt L r.2.1 true = j at a hx
      obtain ⟨q, hq⟩ : ∃ q, L[j]? = some q := ⟨_, List.getElem?_eq_getElem a.lt⟩
      unfold softE at hx
      rw [hq] at hx
      have hx : (q.2.2 && decide (r.2.1 = q.2.1)) = true := hx
      rw [Bool.and_eq_true] at hx
      have he := of_decide_eq_true hx.2
      have hjk : j ≤ k := by
        rcases Nat.lt_or_ge k j with z | z
        · have := a.no k r z hk
          unfold atQ at this
          simp at this
        · exact z
      have hne : j ≠ k := fun z => by
        subst z
        rw [hk] at hq
        cases hq
        rw [hs] at hx
        exact nomatch hx.1
      obtain ⟨x, hx1, hx2⟩ := sf.get hq hx.1
      obtain ⟨y, hy1, hy2⟩ := ch.softNext hq hx.1
      rw [hx1] at hy1
      cases hy1
      rcases Nat.lt_or_ge (j + 1) k with z | z
      · have := ch.lt z hx1 hk
        omega
      · have : j + 1 = k := by omega
        subst this
        rw [hk] at hx1
        cases hx1
        omega
theorem soft_false {n : Nat} {L : List R3} (ch : Ch 0 L n) {o g : Nat} (ho : o ≤ n) (b : Bool) (hb : b = softE L g o) : (b && softE L (rowAt L o true) o) = b := by
  cases b with
  | false => rfl
  | true => rw [soft_at ch ho hb.symm, ← hb]; rfl
def putB (s : Sh) (o : Nat) (b ch : Bool) : Sh := scrollS { s with caret := o, back := b, anchor := if ch then s.anchor else o }
theorem putB_false (s : Sh) (o : Nat) (ch : Bool) : putS s o false ch = putB s o false ch := rfl
theorem putB_eq (s : Sh) (o : Nat) (b ch : Bool) : putS s o b ch = putB s o (b && softE (rowsS s) (rowAt (rowsS s) o true) o) ch := rfl
section
variable {K : PySem.W.Frag} {E : WX} {δ : Dl} {P : PX} {X : XX}
theorem cd_sort2 {a b : Nat} (k : P (.d (.lst [.int ((min a b : Nat) : Int), .int ((max a b : Nat) : Int)])) δ) : CD K E (rSorted K) [.d (.lst [.int (a : Int), .int (b : Int)])] δ P X := fun w σ Hb H vs s rv Q q _ => by
  cases rv with
  | cons r1 r2 =>
    cases r2
    have r1 : Rp K Hb _ (.lst [.int (a : Int), .int (b : Int)]) := r1
    cases r1 with
    | @lst ad xs _ hs ha =>
      have e : xs = [(a : Int), (b : Int)].map V.int := RpAll.ints (ns := [(a : Int), (b : Int)]) ha
      subst e
      refine ⟨ad, [(a : Int), (b : Int)], rfl, SqL.of (s.sub _ _ hs), by show 2 < 64; decide, fun ns' p hp hw hn => ?_⟩
      have hp2 : [((min a b : Nat) : Int), ((max a b : Nat) : Int)].Perm [(a : Int), (b : Int)] := by
        rcases Nat.le_total a b with h | h
        · rw [Nat.min_eq_left h, Nat.max_eq_right h]
        · rw [Nat.min_eq_right h, Nat.max_eq_left h]
          exact List.Perm.swap _ _ _
      have e2 : ns' = [((min a b : Nat) : Int), ((max a b : Nat) : Int)] := List.Perm.eq_of_pairwise (fun x y _ _ h1 h2 => Int.le_antisymm h1 h2) hw (by simp; omega) (hp.trans hp2.symm)
      subst e2
      obtain ⟨s2, f2⟩ := s.new (o := .lst ([((min a b : Nat) : Int), ((max a b : Nat) : Int)].map V.int)) hn
      exact q _ δ _ w _ _ k s2 (.lst upd_same (rpAll_ints (K := K) [((min a b : Nat) : Int), ((max a b : Nat) : Int)])) f2
end
end Cr

namespace Cr
open PySem L2
local macro_rules | `(tactic| walk_at "x") => `(tactic| first | with_reducible refine t_seq ?_ | with_reducible refine t_ret ?_ | with_reducible refine t_set ?_ | with_reducible refine t_drop ?_ | with_reducible refine t_if ?_ | with_reducible refine t_next ?_ | with_reducible refine t_raise ?_ | with_reducible refine t_asg ?_ | with_reducible refine t_retN ?_ | with_reducible refine w_op ?_ | ((with_reducible refine' w_var ?h ?_); (case h => rfl)) | ((with_reducible refine' w_own ?h ?_); (case h => rfl)) | with_reducible refine w_int ?_ | ((with_reducible refine' w_k ?h ?_); (case h => decide +kernel)) | with_reducible refine w_bl ?_ | with_reducible refine w_non ?_ | with_reducible refine w_if ?_ | with_reducible refine w_andV ?_ | with_reducible refine w_orV ?_ | with_reducible refine w_notV ?_ | with_reducible refine w_tup ?_ | with_reducible refine w_lst ?_ | with_reducible refine w_cb ?_ | with_reducible refine w_chain ?_ | with_reducible refine w_slS ?_ | with_reducible refine w_slL ?_ | with_reducible refine w_find1 ?_ | with_reducible refine w_find2 ?_ | with_reducible refine w_rfind1 ?_ | with_reducible refine w_rfind3 ?_ | with_reducible refine w_neg ?_ | with_reducible refine w_ref ?_ | with_reducible refine w_ty ?_ | with_reducible refine wt_test ?_ | with_reducible refine wt_B ?_ | with_reducible refine wt_and ?_ | with_reducible refine wt_or ?_ | with_reducible refine wt_not ?_ | with_reducible refine wt_yes ?_ | with_reducible refine wd_nil ?_ | with_reducible refine wd_cons ?_ | with_reducible refine wa_nil ?_ | with_reducible refine wa_cons ?_ | with_reducible refine wo_none ?_ | with_reducible refine wo_some ?_ | with_reducible refine rd_I0i ?_ | with_reducible refine rd_I0b ?_ | with_reducible refine rd_eqI ?_ | with_reducible refine rd_neI ?_ | with_reducible refine rd_eqS ?_ | with_reducible refine rd_neS ?_ | with_reducible refine rd_isN ?_ | with_reducible refine rd_notN ?_ | with_reducible refine rd_inSign ?_ | with_reducible refine cd_lenL ?_ | ((with_reducible refine' cd_lenS ?h ?_); (case h => first | assumption | omega)) | with_reducible refine cd_lenT ?_ | with_reducible refine cd_lenR ?_ | with_reducible refine cd_abs ?_ | with_reducible refine cd_max2 ?_ | with_reducible refine cd_min2 ?_ | with_reducible refine cd_intB ?_ | with_reducible refine cd_ord ?_ | with_reducible refine g_name ?_ | with_reducible refine ⟨_, rfl, ?_⟩ | with_reducible refine rd_leS ?_ | ((with_reducible refine' w_now ?C ?h ?_); (case C => assumption); (case h => rfl)) | ((with_reducible refine' w_width ?C ?h ?_); (case C => assumption); (case h => rfl)) | ((with_reducible refine' w_height ?C ?h ?_); (case C => assumption); (case h => rfl)) | ((with_reducible refine' w_caret ?C ?h ?_); (case C => assumption); (case h => rfl)) | ((with_reducible refine' w_is_back ?C ?h ?_); (case C => assumption); (case h => rfl)) | ((with_reducible refine' w_anchor ?C ?h ?_); (case C => assumption); (case h => rfl)) | ((with_reducible refine' w_wish ?C ?h ?_); (case C => assumption); (case h => rfl)) | ((with_reducible refine' w_first ?C ?h ?_); (case C => assumption); (case h => rfl)) | ((with_reducible refine' w_mText ?h ?R ?C ?wf ?e ?_); (case h => rfl); (case R => assumption); (case C => assumption); (case wf => assumption); (case e => rfl)) | ((with_reducible refine' w_mRows ?h ?R ?C ?wf ?e ?_); (case h => rfl); (case R => assumption); (case C => assumption); (case wf => assumption); (case e => rfl)) | ((with_reducible refine' w_mAt ?h ?R ?C ?wf ?e ?_); (case h => rfl); (case R => assumption); (case C => assumption); (case wf => assumption); (case e => rfl)) | ((with_reducible refine' w_mChosen ?h ?R ?C ?wf ?e ?_); (case h => rfl); (case R => assumption); (case C => assumption); (case wf => assumption); (case e => rfl)) | ((with_reducible refine' w_mChosenT ?h ?R ?C ?wf ?e ?_); (case h => rfl); (case R => assumption); (case C => assumption); (case wf => assumption); (case e => rfl)) | ((with_reducible refine' w_mView ?h ?R ?C ?wf ?e ?_); (case h => rfl); (case R => assumption); (case C => assumption); (case wf => assumption); (case e => rfl)) | ((with_reducible refine' w_m_text ?h ?_); (case h => rfl)) | ((with_reducible refine' w_m_width ?h ?_); (case h => rfl)) | ((with_reducible refine' w_m_height ?h ?_); (case h => rfl)) | ((with_reducible refine' w_m_caret ?h ?_); (case h => rfl)) | ((with_reducible refine' w_m_back ?h ?_); (case h => rfl)) | ((with_reducible refine' w_m_anchor ?h ?_); (case h => rfl)) | ((with_reducible refine' w_m_wish ?h ?_); (case h => rfl)) | ((with_reducible refine' w_m_first ?h ?_); (case h => rfl)))
local macro_rules | `(tactic| walk_at "xe") => `(tactic| repeat (first | with_reducible refine w_op ?_ | ((with_reducible refine' w_var ?h ?_); (case h => rfl)) | ((with_reducible refine' w_own ?h ?_); (case h => rfl)) | with_reducible refine w_int ?_ | ((with_reducible refine' w_k ?h ?_); (case h => decide +kernel)) | with_reducible refine w_bl ?_ | with_reducible refine w_non ?_ | with_reducible refine w_if ?_ | with_reducible refine w_andV ?_ | with_reducible refine w_orV ?_ | with_reducible refine w_notV ?_ | with_reducible refine w_tup ?_ | with_reducible refine w_lst ?_ | with_reducible refine w_cb ?_ | with_reducible refine w_chain ?_ | with_reducible refine w_slS ?_ | with_reducible refine w_slL ?_ | with_reducible refine w_find1 ?_ | with_reducible refine w_find2 ?_ | with_reducible refine w_rfind1 ?_ | with_reducible refine w_rfind3 ?_ | with_reducible refine w_neg ?_ | with_reducible refine w_ref ?_ | with_reducible refine w_ty ?_ | with_reducible refine wt_test ?_ | with_reducible refine wt_B ?_ | with_reducible refine wt_and ?_ | with_reducible refine wt_or ?_ | with_reducible refine wt_not ?_ | with_reducible refine wt_yes ?_ | with_reducible refine wd_nil ?_ | with_reducible refine wd_cons ?_ | with_reducible refine wa_nil ?_ | with_reducible refine wa_cons ?_ | with_reducible refine wo_none ?_ | with_reducible refine wo_some ?_ | with_reducible refine rd_I0i ?_ | with_reducible refine rd_I0b ?_ | with_reducible refine rd_eqI ?_ | with_reducible refine rd_neI ?_ | with_reducible refine rd_eqS ?_ | with_reducible refine rd_neS ?_ | with_reducible refine rd_isN ?_ | with_reducible refine rd_notN ?_ | with_reducible refine rd_inSign ?_ | with_reducible refine cd_lenL ?_ | ((with_reducible refine' cd_lenS ?h ?_); (case h => first | assumption | omega)) | with_reducible refine cd_lenT ?_ | with_reducible refine cd_lenR ?_ | with_reducible refine cd_abs ?_ | with_reducible refine cd_max2 ?_ | with_reducible refine cd_min2 ?_ | with_reducible refine cd_intB ?_ | with_reducible refine cd_ord ?_ | with_reducible refine g_name ?_ | with_reducible refine ⟨_, rfl, ?_⟩ | with_reducible refine rd_leS ?_ | ((with_reducible refine' w_now ?C ?h ?_); (case C => assumption); (case h => rfl)) | ((with_reducible refine' w_width ?C ?h ?_); (case C => assumption); (case h => rfl)) | ((with_reducible refine' w_height ?C ?h ?_); (case C => assumption); (case h => rfl)) | ((with_reducible refine' w_caret ?C ?h ?_); (case C => assumption); (case h => rfl)) | ((with_reducible refine' w_is_back ?C ?h ?_); (case C => assumption); (case h => rfl)) | ((with_reducible refine' w_anchor ?C ?h ?_); (case C => assumption); (case h => rfl)) | ((with_reducible refine' w_wish ?C ?h ?_); (case C => assumption); (case h => rfl)) | ((with_reducible refine' w_first ?C ?h ?_); (case C => assumption); (case h => rfl)) | ((with_reducible refine' w_mText ?h ?R ?C ?wf ?e ?_); (case h => rfl); (case R => assumption); (case C => assumption); (case wf => assumption); (case e => rfl)) | ((with_reducible refine' w_mRows ?h ?R ?C ?wf ?e ?_); (case h => rfl); (case R => assumption); (case C => assumption); (case wf => assumption); (case e => rfl)) | ((with_reducible refine' w_mAt ?h ?R ?C ?wf ?e ?_); (case h => rfl); (case R => assumption); (case C => assumption); (case wf => assumption); (case e => rfl)) | ((with_reducible refine' w_mChosen ?h ?R ?C ?wf ?e ?_); (case h => rfl); (case R => assumption); (case C => assumption); (case wf => assumption); (case e => rfl)) | ((with_reducible refine' w_mChosenT ?h ?R ?C ?wf ?e ?_); (case h => rfl); (case R => assumption); (case C => assumption); (case wf => assumption); (case e => rfl)) | ((with_reducible refine' w_mView ?h ?R ?C ?wf ?e ?_); (case h => rfl); (case R => assumption); (case C => assumption); (case wf => assumption); (case e => rfl)) | ((with_reducible refine' w_m_text ?h ?_); (case h => rfl)) | ((with_reducible refine' w_m_width ?h ?_); (case h => rfl)) | ((with_reducible refine' w_m_height ?h ?_); (case h => rfl)) | ((with_reducible refine' w_m_caret ?h ?_); (case h => rfl)) | ((with_reducible refine' w_m_back ?h ?_); (case h => rfl)) | ((with_reducible refine' w_m_anchor ?h ?_); (case h => rfl)) | ((with_reducible refine' w_m_wish ?h ?_); (case h => rfl)) | ((with_reducible refine' w_m_first ?h ?_); (case h => rfl)) | simp only [List.set_cons_succ, List.set_cons_zero]))
local macro_rules | `(tactic| walk_at "xs") => `(tactic| repeat (first | with_reducible refine t_seq ?_ | with_reducible refine t_ret ?_ | with_reducible refine t_set ?_ | with_reducible refine t_drop ?_ | with_reducible refine t_if ?_ | with_reducible refine t_next ?_ | with_reducible refine t_raise ?_ | with_reducible refine t_asg ?_ | with_reducible refine t_retN ?_ | with_reducible refine w_op ?_ | ((with_reducible refine' w_var ?h ?_); (case h => rfl)) | ((with_reducible refine' w_own ?h ?_); (case h => rfl)) | with_reducible refine w_int ?_ | ((with_reducible refine' w_k ?h ?_); (case h => decide +kernel)) | with_reducible refine w_bl ?_ | with_reducible refine w_non ?_ | with_reducible refine w_if ?_ | with_reducible refine w_andV ?_ | with_reducible refine w_orV ?_ | with_reducible refine w_notV ?_ | with_reducible refine w_tup ?_ | with_reducible refine w_lst ?_ | with_reducible refine w_cb ?_ | with_reducible refine w_chain ?_ | with_reducible refine w_slS ?_ | with_reducible refine w_slL ?_ | with_reducible refine w_find1 ?_ | with_reducible refine w_find2 ?_ | with_reducible refine w_rfind1 ?_ | with_reducible refine w_rfind3 ?_ | with_reducible refine w_neg ?_ | with_reducible refine w_ref ?_ | with_reducible refine w_ty ?_ | with_reducible refine wt_test ?_ | with_reducible refine wt_B ?_ | with_reducible refine wt_and ?_ | with_reducible refine wt_or ?_ | with_reducible refine wt_not ?_ | with_reducible refine wt_yes ?_ | with_reducible refine wd_nil ?_ | with_reducible refine wd_cons ?_ | with_reducible refine wa_nil ?_ | with_reducible refine wa_cons ?_ | with_reducible refine wo_none ?_ | with_reducible refine wo_some ?_ | with_reducible refine rd_I0i ?_ | with_reducible refine rd_I0b ?_ | with_reducible refine rd_eqI ?_ | with_reducible refine rd_neI ?_ | with_reducible refine rd_eqS ?_ | with_reducible refine rd_neS ?_ | with_reducible refine rd_isN ?_ | with_reducible refine rd_notN ?_ | with_reducible refine rd_inSign ?_ | with_reducible refine cd_lenL ?_ | ((with_reducible refine' cd_lenS ?h ?_); (case h => first | assumption | omega)) | with_reducible refine cd_lenT ?_ | with_reducible refine cd_lenR ?_ | with_reducible refine cd_abs ?_ | with_reducible refine cd_max2 ?_ | with_reducible refine cd_min2 ?_ | with_reducible refine cd_intB ?_ | with_reducible refine cd_ord ?_ | with_reducible refine g_name ?_ | with_reducible refine ⟨_, rfl, ?_⟩ | with_reducible refine rd_leS ?_ | ((with_reducible refine' w_now ?C ?h ?_); (case C => assumption); (case h => rfl)) | ((with_reducible refine' w_width ?C ?h ?_); (case C => assumption); (case h => rfl)) | ((with_reducible refine' w_height ?C ?h ?_); (case C => assumption); (case h => rfl)) | ((with_reducible refine' w_caret ?C ?h ?_); (case C => assumption); (case h => rfl)) | ((with_reducible refine' w_is_back ?C ?h ?_); (case C => assumption); (case h => rfl)) | ((with_reducible refine' w_anchor ?C ?h ?_); (case C => assumption); (case h => rfl)) | ((with_reducible refine' w_wish ?C ?h ?_); (case C => assumption); (case h => rfl)) | ((with_reducible refine' w_first ?C ?h ?_); (case C => assumption); (case h => rfl)) | ((with_reducible refine' w_mText ?h ?R ?C ?wf ?e ?_); (case h => rfl); (case R => assumption); (case C => assumption); (case wf => assumption); (case e => rfl)) | ((with_reducible refine' w_mRows ?h ?R ?C ?wf ?e ?_); (case h => rfl); (case R => assumption); (case C => assumption); (case wf => assumption); (case e => rfl)) | ((with_reducible refine' w_mAt ?h ?R ?C ?wf ?e ?_); (case h => rfl); (case R => assumption); (case C => assumption); (case wf => assumption); (case e => rfl)) | ((with_reducible refine' w_mChosen ?h ?R ?C ?wf ?e ?_); (case h => rfl); (case R => assumption); (case C => assumption); (case wf => assumption); (case e => rfl)) | ((with_reducible refine' w_mChosenT ?h ?R ?C ?wf ?e ?_); (case h => rfl); (case R => assumption); (case C => assumption); (case wf => assumption); (case e => rfl)) | ((with_reducible refine' w_mView ?h ?R ?C ?wf ?e ?_); (case h => rfl); (case R => assumption); (case C => assumption); (case wf => assumption); (case e => rfl)) | ((with_reducible refine' w_m_text ?h ?_); (case h => rfl)) | ((with_reducible refine' w_m_width ?h ?_); (case h => rfl)) | ((with_reducible refine' w_m_height ?h ?_); (case h => rfl)) | ((with_reducible refine' w_m_caret ?h ?_); (case h => rfl)) | ((with_reducible refine' w_m_back ?h ?_); (case h => rfl)) | ((with_reducible refine' w_m_anchor ?h ?_); (case h => rfl)) | ((with_reducible refine' w_m_wish ?h ?_); (case h => rfl)) | ((with_reducible refine' w_m_first ?h ?_); (case h => rfl)) | simp only [List.set_cons_succ, List.set_cons_zero]))
/-- small enough for the law's own rows -/
structure Sm (s : Sh) : Prop where
  w : ∀ p ∈ splitAt1 10 s.now, wd p ≤ 328
theorem sm_of {s : Sh} (h : wd s.now ≤ 328) : Sm s := ⟨fun p hp => Nat.le_trans (wd_part _ p hp) h⟩
def f__law_shown (K : PySem.W.Frag) : FS := fun ys R _ => ∃ (p : Addr) (m : Bool) (s : Sh), ys = [.o p (omd K m s)] ∧ Wt s ∧ Sm s ∧ s.caret ≤ s.now.length ∧ R .non [some (.o p (omd K m (scrollS s)))]
abbrev sp__law_shown (K : PySem.W.Frag) : Sp := SpOf K (f__law_shown K)
def t__law_shown (K : PySem.W.Frag) (E : XK) : TS := (tSeq (tAsg (tCall (sp__law_rows K) [] L2.E0 (tCons (tDGet (tVar 0) (tK [116, 101, 120, 116] "text")) (tCons (tDGet (tVar 0) (tK [119, 105, 100, 116, 104] "width")) tNil))) (gName 1))
  (tSeq (tAsg (tCall (sp__law_row K) [] L2.E0 (tCons (tVar 1) (tCons (tDGet (tVar 0) (tK [99, 97, 114, 101, 116] "caret")) (tCons (tDGet (tVar 0) (tK [98, 97, 99, 107] "back")) tNil)))) (gName 2))
  (tSeq (tAsg (tCB rMn2 (tCons (tDGet (tVar 0) (tK [102, 105, 114, 115, 116] "first")) (tCons (tOp rMinus (tCB (rLen K) (tCons (tVar 1) tNil)) (tC (.int 1))) tNil))) (gName 3))
  (tSeq (tIfS (tTest (tOp rLt' (tVar 2) (tVar 3))) (tAsg (tVar 2) (gName 3)) tNext)
  (tSeq (tIfS (tTest (tOp rGt' (tVar 2) (tOp rMinus (tOp rPlus (tVar 3) (tDGet (tVar 0) (tK [104, 101, 105, 103, 104, 116] "height"))) (tC (.int 1))))) (tAsg (tOp rPlus (tOp rMinus (tVar 2) (tDGet (tVar 0) (tK [104, 101, 105, 103, 104, 116] "height"))) (tC (.int 1))) (gName 3)) tNext)
  (sDPut (tVar 0) (tK [102, 105, 114, 115, 116] "first") (tVar 3)))))))
theorem len_f__law_shown {K : PySem.W.Frag} : ∀ ds R X, f__law_shown K ds R X → ds.length = 1 := by
  rintro ds R X ⟨_, _, _, rfl, _⟩
  rfl
theorem len__law_shown {K : PySem.W.Frag} : ∀ vs H Q E, sp__law_shown K vs H Q E → vs.length = 1 := fun _ _ _ _ h => spOf_len len_f__law_shown h
theorem cl__law_shown {K : PySem.W.Frag} {δ : Dl} {P : PX} {X : XX} {p : Addr} {m : Bool} {s : Sh} {i : Nat} (hi : δ[i]? = some (some (.o p (omd K m s)))) (wt : Wt s) (sm : Sm s) (hc : s.caret ≤ s.now.length) (k : P (.d .non) (δ.set i (some (.o p (omd K m (scrollS s)))))) : Cl (f__law_shown K) [.a p] δ P X :=
  ⟨_, [some i], .o hi .nil, uq1, p, m, s, rfl, wt, sm, hc, k⟩
theorem pure__law_shown {K : PySem.W.Frag} {vs : List V} {H : Hp} {Q : VK} {E : XK} (h : sp__law_shown K vs H Q E) : t__law_shown K E { nx := fun _ H' => Q .non H', rt := Q } (L2.start ["sheet", "rows", "number", "first"] vs) H := by
  refine body (ts := t__law_shown K) 1 3 rfl len_f__law_shown (fun ds R X ⟨p, m, s, e, wt, sm, hc, hk⟩ => ?_) h
  subst e
  show T K _ (t__law_shown K E) [some (.o p (omd K m s)), none, none, none] _ _ _
  unfold t__law_shown
  have hl := wt.l
  have hw := sm.w
  have hch := wt.ch
  have hrl := wt.rl
  have hpos := List.length_pos_iff.mpr hch.ne
  have hh := wt.h1
  have hk2 : R .non [some (.o p (omd K m { s with first := scrollN (rowsS s) s.caret s.back s.height s.first }))] := hk
  refine t_seq (t_set (w_fn ?_))
  walk_at "xs"
  refine ⟨s.now, s.width, rfl, hl, hw, wt.w1, _, rfl, ?_⟩
  show T K _ _ [some (.o p (omd K m s)), some (.d (.lst ((rowsS s).map dT))), none, none] _ _ _
  generalize rowsS s = L at hk2 hch hrl hpos ⊢
  refine t_seq (t_set (w_fn ?_))
  walk_at "xs"
  refine ⟨L, s.now.length, s.caret, s.back, rfl, by omega, hch, hc, _, rfl, ?_⟩
  unfold scrollN at hk2
  generalize rowAt L s.caret s.back = n at hk2 ⊢
  refine t_seq (t_set ?_)
  walk_at "xs"
  rw [List.length_map]
  have e1 : (L.length : Int) - 1 = ((L.length - 1 : Nat) : Int) := by omega
  rw [e1, mn2]
  simp only at hk2
  generalize min s.first (L.length - 1) = f1 at hk2 ⊢
  have second : ∀ f2 : Nat, R .non [some (.o p (omd K m { s with first := if f2 + s.height ≤ n then n - s.height + 1 else f2 }))] → T K (fun c d _ H => E c d H) (tSeq (tIfS (tTest (tOp rGt' (tVar 2) (tOp rMinus (tOp rPlus (tVar 3) (tDGet (tVar 0) (tK [104, 101, 105, 103, 104, 116] "height"))) (tC (.int 1))))) (tAsg (tOp rPlus (tOp rMinus (tVar 2) (tDGet (tVar 0) (tK [104, 101, 105, 103, 104, 116] "height"))) (tC (.int 1))) (gName 3)) tNext)
  (sDPut (tVar 0) (tK [102, 105, 114, 115, 116] "first") (tVar 3)))
      [some (.o p (omd K m s)), some (.d (.lst (L.map dT))), some (.d (.int (n : Int))), some (.d (.int (f2 : Int)))] (fun δ' => R .non (outs [Dx.o p (omd K m s)] δ') ∧ keepP [Dx.o p (omd K m s)] δ') (fun x δ' => RetD K 1 x δ' (fun d => R d (outs [Dx.o p (omd K m s)] δ')) ∧ keepP [Dx.o p (omd K m s)] δ') (fun C δ' => X C (outs [Dx.o p (omd K m s)] δ') ∧ keepP [Dx.o p (omd K m s)] δ') := fun f2 hf => by
    walk_at "xs"
    refine ⟨fun hb => ?_, fun hb => ?_⟩
    · have hb := of_decide_eq_true hb
      rw [if_pos (by omega)] at hf
      walk_at "xs"
      have e3 : (n : Int) - (s.height : Int) + 1 = ((n - s.height + 1 : Nat) : Int) := by omega
      rw [e3]
      exact t_m_first (w_var rfl ⟨_, p, s, m, rfl, rfl, hf, rfl, trivial⟩)
    · have hb := of_decide_eq_false hb
      rw [if_neg (by omega)] at hf
      exact t_next (t_m_first (w_var rfl ⟨_, p, s, m, rfl, rfl, hf, rfl, trivial⟩))
  walk_at "xs"
  refine ⟨fun hb => ?_, fun hb => ?_⟩
  · have hb := of_decide_eq_true hb
    have hb2 : n < f1 := by omega
    simp only [if_pos hb2] at hk2
    exact t_set (w_var rfl ⟨_, rfl, second n hk2⟩)
  · have hb := of_decide_eq_false hb
    have hb2 : ¬ n < f1 := by omega
    simp only [if_neg hb2] at hk2
    exact t_next (second f1 hk2)
def f__law_put (K : PySem.W.Frag) : FS := fun ys R _ => ∃ (p : Addr) (m : Bool) (s : Sh) (o : Nat) (b ch : Bool), ys = [.o p (omd K m s), .d (.int o), .d (.bl b), .d (.bl ch)] ∧ Wt s ∧ Sm s ∧ o ≤ s.now.length ∧ R .non [some (.o p (omd K m (putB s o b ch))), none, none, none]
abbrev sp__law_put (K : PySem.W.Frag) : Sp := SpOf K (f__law_put K)
def t__law_put (K : PySem.W.Frag) (E : XK) : TS := (tSeq (sDPut (tVar 0) (tK [99, 97, 114, 101, 116] "caret") (tVar 1))
  (tSeq (sDPut (tVar 0) (tK [98, 97, 99, 107] "back") (tVar 2))
  (tSeq (tIfS (tNot (tB (tVar 3))) (sDPut (tVar 0) (tK [97, 110, 99, 104, 111, 114] "anchor") (tVar 1)) tNext)
  (tDrop (tCall (sp__law_shown K) [] L2.E0 (tCons (tVar 0) tNil))))))
theorem len_f__law_put {K : PySem.W.Frag} : ∀ ds R X, f__law_put K ds R X → ds.length = 4 := by
  rintro ds R X ⟨_, _, _, _, _, _, rfl, _⟩
  rfl
theorem len__law_put {K : PySem.W.Frag} : ∀ vs H Q E, sp__law_put K vs H Q E → vs.length = 4 := fun _ _ _ _ h => spOf_len len_f__law_put h
theorem cl__law_put {K : PySem.W.Frag} {δ : Dl} {P : PX} {X : XX} {p : Addr} {m : Bool} {s : Sh} {i o : Nat} {b ch : Bool} (hi : δ[i]? = some (some (.o p (omd K m s)))) (wt : Wt s) (sm : Sm s) (ho : o ≤ s.now.length) (k : P (.d .non) (δ.set i (some (.o p (omd K m (putB s o b ch)))))) : Cl (f__law_put K) [.a p, .d (.int o), .d (.bl b), .d (.bl ch)] δ P X :=
  ⟨_, [some i, none, none, none], .o hi (.d (.d (.d .nil))), uq4, p, m, s, o, b, ch, rfl, wt, sm, ho, k⟩
theorem pure__law_put {K : PySem.W.Frag} {vs : List V} {H : Hp} {Q : VK} {E : XK} (h : sp__law_put K vs H Q E) : t__law_put K E { nx := fun _ H' => Q .non H', rt := Q } (L2.start ["sheet", "offset", "is_back", "is_choosing"] vs) H := by
  refine body (ts := t__law_put K) 4 0 rfl len_f__law_put (fun ds R X ⟨p, m, s, o, b, ch, e, wt, sm, ho, hk⟩ => ?_) h
  subst e
  show T K _ (t__law_put K E) [some (.o p (omd K m s)), some (.d (.int o)), some (.d (.bl b)), some (.d (.bl ch))] _ _ _
  unfold t__law_put
  have hk : R .non [some (.o p (omd K m (scrollS { s with caret := o, back := b, anchor := if ch then s.anchor else o }))), none, none, none] := hk
  refine t_seq (t_m_caret (w_var rfl ⟨o, p, s, m, rfl, rfl, ?_⟩))
  refine t_seq (t_m_back (w_var rfl ⟨b, p, _, m, rfl, rfl, ?_⟩))
  have fin : ∀ a : Nat, R .non [some (.o p (omd K m (scrollS { s with caret := o, back := b, anchor := a }))), none, none, none] → T K (fun c d _ H => E c d H) (tDrop (tCall (sp__law_shown K) [] L2.E0 (tCons (tVar 0) tNil))) [some (.o p (omd K m { s with caret := o, back := b, anchor := a })), some (.d (.int o)), some (.d (.bl b)), some (.d (.bl ch))] (fun δ' => R .non (outs [.o p (omd K m s), .d (.int o), .d (.bl b), .d (.bl ch)] δ') ∧ keepP [.o p (omd K m s), .d (.int o), .d (.bl b), .d (.bl ch)] δ') (fun x δ' => RetD K 4 x δ' (fun d => R d (outs [.o p (omd K m s), .d (.int o), .d (.bl b), .d (.bl ch)] δ')) ∧ keepP [.o p (omd K m s), .d (.int o), .d (.bl b), .d (.bl ch)] δ') (fun C δ' => X C (outs [.o p (omd K m s), .d (.int o), .d (.bl b), .d (.bl ch)] δ') ∧ keepP [.o p (omd K m s), .d (.int o), .d (.bl b), .d (.bl ch)] δ') := fun a hR => by
    refine t_drop (w_call ?_)
    walk_at "xs"
    exact cl__law_shown (i := 0) rfl ⟨wt.t, wt.w1, wt.w2, wt.h1, wt.h2⟩ ⟨sm.w⟩ ho ⟨hR, rfl, trivial⟩
  refine t_seq (t_if (wt_not (wt_B (w_var rfl ⟨ch, rfl, fun hb => ?_, fun hb => ?_⟩))))
  · have hb : ch = false := by simpa using hb
    subst hb
    exact t_m_anchor (w_var rfl ⟨o, p, _, m, rfl, rfl, fin o hk⟩)
  · have hb : ch = true := by simpa using hb
    subst hb
    exact t_next (fin s.anchor hk)
def f__law_vertical (K : PySem.W.Frag) : FS := fun ys R _ => ∃ (p : Addr) (m : Bool) (s : Sh) (v : Int) (ch : Bool), ys = [.o p (omd K m s), .d (.int v), .d (.bl ch)] ∧ Wf s ∧ Sm s ∧ v ≠ 0 ∧ R .non [some (.o p (omd K m (vertS s v ch))), none, none]
abbrev sp__law_vertical (K : PySem.W.Frag) : Sp := SpOf K (f__law_vertical K)
def t__law_vertical (K : PySem.W.Frag) (E : XK) : TS := (tSeq (tAsg (tDGet (tVar 0) (tK [116, 101, 120, 116] "text")) (gName 3))
  (tSeq (tAsg (tCall (sp__law_rows K) [] L2.E0 (tCons (tVar 3) (tCons (tDGet (tVar 0) (tK [119, 105, 100, 116, 104] "width")) tNil))) (gName 4))
  (tSeq (tAsg (tCall (sp__law_place K) [] L2.E0 (tCons (tVar 3) (tCons (tVar 4) (tCons (tDGet (tVar 0) (tK [99, 97, 114, 101, 116] "caret")) (tCons (tDGet (tVar 0) (tK [98, 97, 99, 107] "back")) tNil))))) (gTup K 2 (gCons (gName 5) (gCons (gName 6) gNil))))
  (tSeq (tAsg (tIf (tTest (tOp rIsNone (tDGet (tVar 0) (tK [119, 105, 115, 104] "wish")) (tC .non))) (tVar 6) (tDGet (tVar 0) (tK [119, 105, 115, 104] "wish"))) (gName 7))
  (tSeq (tAsg (tCB rMn2 (tCons (tCB rMx2 (tCons (tC (.int 0)) (tCons (tOp rPlus (tVar 5) (tVar 1)) tNil))) (tCons (tOp rMinus (tCB (rLen K) (tCons (tVar 4) tNil)) (tC (.int 1))) tNil))) (gName 8))
  (tSeq (tIfS (tTest (tOp rEq (tVar 5) (tVar 8))) (tDrop (tCall (sp__law_put K) [] L2.E0 (tCons (tVar 0) (tCons (tIf (tTest (tOp rLt' (tVar 1) (tC (.int 0)))) (tC (.int 0)) (tCB (rLen K) (tCons (tVar 3) tNil))) (tCons (tC (.bl false)) (tCons (tVar 2) tNil)))))) (tSeq (tAsg (tCall (sp__law_near K) [] L2.E0 (tCons (tVar 3) (tCons (tOp (rIxL K) (tVar 4) (tVar 8)) (tCons (tVar 7) tNil)))) (gName 9))
  (tDrop (tCall (sp__law_put K) [] L2.E0 (tCons (tVar 0) (tCons (tVar 9) (tCons (tAndV (tOp (rIxT K) (tOp (rIxL K) (tVar 4) (tVar 8)) (tC (.int 2))) (tOp rEq (tVar 9) (tOp (rIxT K) (tOp (rIxL K) (tVar 4) (tVar 8)) (tC (.int 1))))) (tCons (tVar 2) tNil))))))))
  (sDPut (tVar 0) (tK [119, 105, 115, 104] "wish") (tVar 7))))))))
theorem len_f__law_vertical {K : PySem.W.Frag} : ∀ ds R X, f__law_vertical K ds R X → ds.length = 3 := by
  rintro ds R X ⟨_, _, _, _, _, rfl, _⟩
  rfl
theorem len__law_vertical {K : PySem.W.Frag} : ∀ vs H Q E, sp__law_vertical K vs H Q E → vs.length = 3 := fun _ _ _ _ h => spOf_len len_f__law_vertical h
theorem cl__law_vertical {K : PySem.W.Frag} {δ : Dl} {P : PX} {X : XX} {p : Addr} {m : Bool} {s : Sh} {i : Nat} {v : Int} {ch : Bool} (hi : δ[i]? = some (some (.o p (omd K m s)))) (wf : Wf s) (sm : Sm s) (hv : v ≠ 0) (k : P (.d .non) (δ.set i (some (.o p (omd K m (vertS s v ch)))))) : Cl (f__law_vertical K) [.a p, .d (.int v), .d (.bl ch)] δ P X :=
  ⟨_, [some i, none, none], .o hi (.d (.d .nil)), uq3o, p, m, s, v, ch, rfl, wf, sm, hv, k⟩
theorem eq_tup2 {a b : Nat} (h : a = b) : ((a : Int) = (b : Int)) := by rw [h]
theorem pure__law_vertical {K : PySem.W.Frag} {vs : List V} {H : Hp} {Q : VK} {E : XK} (h : sp__law_vertical K vs H Q E) : t__law_vertical K E { nx := fun _ H' => Q .non H', rt := Q } (L2.start ["sheet", "many", "is_choosing", "text", "rows", "number", "column", "wish", "goal", "offset"] vs) H := by
  refine body (ts := t__law_vertical K) 3 7 rfl len_f__law_vertical (fun ds R X ⟨p, m, s, v, ch, e, wf, sm, hv, hk⟩ => ?_) h
  subst e
  show T K _ (t__law_vertical K E) [some (.o p (omd K m s)), some (.d (.int v)), some (.d (.bl ch)), none, none, none, none, none, none, none] _ _ _
  unfold t__law_vertical
  have hl := wf.l
  have hw := sm.w
  have hc := wf.c
  have hch := wf.ch
  have hrl := wf.rl
  have hpos := List.length_pos_iff.mpr hch.ne
  have hlt := curS_lt wf
  refine t_seq (t_set (w_m_text rfl ⟨_, rfl, ?_⟩))
  refine t_seq (t_set (w_fn ?_))
  walk_at "xs"
  refine ⟨s.now, s.width, rfl, hl, hw, wf.w1, _, rfl, ?_⟩
  refine t_seq (t_asg (w_fn ?_))
  walk_at "xs"
  refine ⟨s.now, rowsS s, s.caret, s.back, rfl, by omega, by omega, hch, hc, _, rfl, ?_⟩
  unfold placeD
  refine g_tup rfl (gs_cons (g_name (gs_cons (g_name (gs_nil ?_)))))
  refine t_seq (t_set (W.imp (P := fun x δ' => x = .d (.int ((wishS s : Nat) : Int)) ∧ δ' = [some (.o p (omd K m s)), some (.d (.int v)), some (.d (.bl ch)), some (.d (.str s.now)), some (.d (.lst ((rowsS s).map dT))), some (.d (.int ((curS s : Nat) : Int))), some (.d (.int ((colOf s.now (rowR (rowsS s) (curS s)).1 s.caret : Nat) : Int))), none, none, none]) ?_ ?_))
  · refine w_if (wt_test (w_op (w_m_wish rfl (w_non (rd_isN ⟨_, rfl, ?_⟩)))))
    cases hw : s.wish with
    | none =>
      have ew : wishS s = colOf s.now (rowR (rowsS s) (curS s)).1 s.caret := by unfold wishS; rw [hw]; rfl
      rw [ew]
      exact ⟨fun _ => w_var rfl ⟨rfl, rfl⟩, fun z => nomatch z⟩
    | some x =>
      have ew : wishS s = x := by unfold wishS; rw [hw]; rfl
      rw [ew]
      exact ⟨(fun z => nomatch z), fun _ => w_m_wish rfl ⟨by rw [hw]; rfl, rfl⟩⟩
  rintro x δ' ⟨rfl, rfl⟩
  refine ⟨_, rfl, ?_⟩
  refine t_seq (t_set ?_)
  walk_at "xe"
  rw [List.length_map]
  have hg := goalN_lt (n := curS s) (m := v) hpos
  have eg : (if ((rowsS s).length : Int) - 1 < (if (curS s : Int) + v > 0 then (curS s : Int) + v else 0) then ((rowsS s).length : Int) - 1 else (if (curS s : Int) + v > 0 then (curS s : Int) + v else 0)) = ((goalN (curS s) v (rowsS s).length : Nat) : Int) := by
    unfold goalN
    split <;> split at * <;> omega
  rw [eg]
  have hgd : goalN (curS s) v (rowsS s).length = (min (max 0 ((curS s : Int) + v)) (((rowsS s).length : Int) - 1)).toNat := rfl
  have hk : R .non [some (.o p (omd K m { putS s (vertP s v).1 (vertP s v).2 ch with wish := some (wishS s) })), none, none] := hk
  have hvP : vertP s v = if (curS s : Int) + v < 0 ∧ curS s = 0 then (0, false) else if ((rowsS s).length : Int) ≤ (curS s : Int) + v ∧ curS s = (rowsS s).length - 1 then (s.now.length, false) else (nearF s.now (rowR (rowsS s) (goalN (curS s) v (rowsS s).length)).1 (rowR (rowsS s) (goalN (curS s) v (rowsS s).length)).2.1 (wishS s), softE (rowsS s) (goalN (curS s) v (rowsS s).length) (nearF s.now (rowR (rowsS s) (goalN (curS s) v (rowsS s).length)).1 (rowR (rowsS s) (goalN (curS s) v (rowsS s).length)).2.1 (wishS s))) := rfl
  have hvle := vertP_le wf v
  have hput : putS s (vertP s v).1 (vertP s v).2 ch = putB s (vertP s v).1 (vertP s v).2 ch := by
    rw [putB_eq]
    have : ((vertP s v).2 && softE (rowsS s) (rowAt (rowsS s) (vertP s v).1 true) (vertP s v).1) = (vertP s v).2 := by
      rw [hvP]
      split
      · rfl
      split
      · rfl
      · refine soft_false hch ?_ _ rfl
        have hm := hch.mem _ (rowR_mem hg)
        have := (nearF_near s.now (rowR (rowsS s) (goalN (curS s) v (rowsS s).length)).1 (wishS s) hm.2.1).hi
        exact Nat.le_trans this hm.2.2
    rw [this]
  rw [hput] at hk
  refine t_seq (T.imp (N := fun δ => ∃ (x9 : Option Dx), δ = [some (.o p (omd K m (putB s (vertP s v).1 (vertP s v).2 ch))), some (.d (.int v)), some (.d (.bl ch)), some (.d (.str s.now)), some (.d (.lst ((rowsS s).map dT))), some (.d (.int ((curS s : Nat) : Int))), some (.d (.int ((colOf s.now (rowR (rowsS s) (curS s)).1 s.caret : Nat) : Int))), some (.d (.int ((wishS s : Nat) : Int))), some (.d (.int ((goalN (curS s) v (rowsS s).length : Nat) : Int))), x9]) (R := fun _ _ => False) ?_ ?_ (fun _ _ z => z.elim))
  · walk_at "xs"
    refine ⟨fun hb => ?_, fun hb => ?_⟩
    · have hb := of_decide_eq_true hb
      refine t_drop (w_call (wa_cons (w_own rfl (wa_cons ?_))))
      walk_at "xs"
      refine ⟨fun h1 => ?_, fun h1 => ?_⟩
      · have h1 := of_decide_eq_true h1
        have e1 : vertP s v = (0, false) := by rw [hvP, if_pos (by omega)]
        rw [e1]
        walk_at "xs"
        exact cl__law_put (o := 0) (i := 0) rfl wf.wt sm (Nat.zero_le _) ⟨_, rfl⟩
      · have h1 := of_decide_eq_false h1
        have e1 : vertP s v = (s.now.length, false) := by rw [hvP, if_neg (by omega), if_pos (by omega)]
        rw [e1]
        walk_at "xs"
        exact cl__law_put (i := 0) rfl wf.wt sm (Nat.le_refl _) ⟨_, rfl⟩
    · have hb := of_decide_eq_false hb
      rw [if_neg (by omega), if_neg (by omega)] at hvP
      have hgr := rowR_get hg
      have hgd' : ((rowsS s).map dT)[goalN (curS s) v (rowsS s).length]? = some (dT (rowR (rowsS s) (goalN (curS s) v (rowsS s).length))) := by rw [List.getElem?_map, hgr]; rfl
      have hm := hch.mem _ (rowR_mem hg)
      rw [hvP]
      clear hvP hput hk hvle eg hgd
      generalize goalN (curS s) v (rowsS s).length = g at *
      refine t_seq (t_set (w_fn ?_))
      walk_at "xs"
      refine rd_ixL (atI_nat hgd') ⟨_, rfl, ?_⟩
      walk_at "xs"
      refine ⟨s.now, _, (wishS s : Int), rfl, by omega, hm.2.1, hm.2.2, fun f nf => ⟨_, rfl, ?_⟩⟩
      rw [nearF_eq nf]
      have hf : f ≤ s.now.length := by have := nf.hi; omega
      have es : softE (rowsS s) g f = ((rowR (rowsS s) g).2.2 && decide (f = (rowR (rowsS s) g).2.1)) := by unfold softE; rw [hgr]
      rw [es]
      refine t_drop (w_call (wa_cons (w_own rfl (wa_cons (w_var rfl (wa_cons ?_))))))
      refine w_andV ?_
      walk_at "xs"
      refine rd_ixL (atI_nat hgd') ?_
      walk_at "xs"
      refine rd_ixT (d := .bl (rowR (rowsS s) g).2.2) rfl ⟨_, rfl, fun h1 => ?_, fun h1 => ?_⟩
      · walk_at "xs"
        refine rd_ixL (atI_nat hgd') ?_
        walk_at "xs"
        refine rd_ixT (d := .int (rowR (rowsS s) g).2.1) rfl ?_
        walk_at "xs"
        have e1 : decide ((f : Int) = ((rowR (rowsS s) g).2.1 : Int)) = decide (f = (rowR (rowsS s) g).2.1) := decide_eq_decide.mpr (by omega)
        rw [e1, h1, Bool.true_and]
        exact cl__law_put (i := 0) rfl wf.wt sm hf ⟨_, rfl⟩
      · walk_at "xs"
        rw [h1, Bool.false_and]
        exact cl__law_put (i := 0) rfl wf.wt sm hf ⟨_, rfl⟩
  rintro δ ⟨x9, rfl⟩
  exact t_m_wish (w_var rfl ⟨some (wishS s), p, _, m, rfl, rfl, hk, rfl, trivial⟩)
end Cr

namespace Cr
open PySem L2
local macro_rules | `(tactic| walk_at "x") => `(tactic| first | with_reducible refine t_seq ?_ | with_reducible refine t_ret ?_ | with_reducible refine t_set ?_ | with_reducible refine t_drop ?_ | with_reducible refine t_if ?_ | with_reducible refine t_next ?_ | with_reducible refine t_raise ?_ | with_reducible refine t_asg ?_ | with_reducible refine t_retN ?_ | with_reducible refine w_op ?_ | ((with_reducible refine' w_var ?h ?_); (case h => rfl)) | ((with_reducible refine' w_own ?h ?_); (case h => rfl)) | with_reducible refine w_int ?_ | ((with_reducible refine' w_k ?h ?_); (case h => decide +kernel)) | with_reducible refine w_bl ?_ | with_reducible refine w_non ?_ | with_reducible refine w_if ?_ | with_reducible refine w_andV ?_ | with_reducible refine w_orV ?_ | with_reducible refine w_notV ?_ | with_reducible refine w_tup ?_ | with_reducible refine w_lst ?_ | with_reducible refine w_cb ?_ | with_reducible refine w_chain ?_ | with_reducible refine w_slS ?_ | with_reducible refine w_slL ?_ | with_reducible refine w_find1 ?_ | with_reducible refine w_find2 ?_ | with_reducible refine w_rfind1 ?_ | with_reducible refine w_rfind3 ?_ | with_reducible refine w_neg ?_ | with_reducible refine w_ref ?_ | with_reducible refine w_ty ?_ | with_reducible refine wt_test ?_ | with_reducible refine wt_B ?_ | with_reducible refine wt_and ?_ | with_reducible refine wt_or ?_ | with_reducible refine wt_not ?_ | with_reducible refine wt_yes ?_ | with_reducible refine wd_nil ?_ | with_reducible refine wd_cons ?_ | with_reducible refine wa_nil ?_ | with_reducible refine wa_cons ?_ | with_reducible refine wo_none ?_ | with_reducible refine wo_some ?_ | with_reducible refine rd_I0i ?_ | with_reducible refine rd_I0b ?_ | with_reducible refine rd_eqI ?_ | with_reducible refine rd_neI ?_ | with_reducible refine rd_eqS ?_ | with_reducible refine rd_neS ?_ | with_reducible refine rd_isN ?_ | with_reducible refine rd_notN ?_ | with_reducible refine rd_inSign ?_ | with_reducible refine cd_lenL ?_ | ((with_reducible refine' cd_lenS ?h ?_); (case h => first | assumption | omega)) | with_reducible refine cd_lenT ?_ | with_reducible refine cd_lenR ?_ | with_reducible refine cd_abs ?_ | with_reducible refine cd_max2 ?_ | with_reducible refine cd_min2 ?_ | with_reducible refine cd_intB ?_ | with_reducible refine cd_ord ?_ | with_reducible refine g_name ?_ | with_reducible refine ⟨_, rfl, ?_⟩ | with_reducible refine rd_leS ?_ | ((with_reducible refine' w_now ?C ?h ?_); (case C => assumption); (case h => rfl)) | ((with_reducible refine' w_width ?C ?h ?_); (case C => assumption); (case h => rfl)) | ((with_reducible refine' w_height ?C ?h ?_); (case C => assumption); (case h => rfl)) | ((with_reducible refine' w_caret ?C ?h ?_); (case C => assumption); (case h => rfl)) | ((with_reducible refine' w_is_back ?C ?h ?_); (case C => assumption); (case h => rfl)) | ((with_reducible refine' w_anchor ?C ?h ?_); (case C => assumption); (case h => rfl)) | ((with_reducible refine' w_wish ?C ?h ?_); (case C => assumption); (case h => rfl)) | ((with_reducible refine' w_first ?C ?h ?_); (case C => assumption); (case h => rfl)) | ((with_reducible refine' w_mText ?h ?R ?C ?wf ?e ?_); (case h => rfl); (case R => assumption); (case C => assumption); (case wf => assumption); (case e => rfl)) | ((with_reducible refine' w_mRows ?h ?R ?C ?wf ?e ?_); (case h => rfl); (case R => assumption); (case C => assumption); (case wf => assumption); (case e => rfl)) | ((with_reducible refine' w_mAt ?h ?R ?C ?wf ?e ?_); (case h => rfl); (case R => assumption); (case C => assumption); (case wf => assumption); (case e => rfl)) | ((with_reducible refine' w_mChosen ?h ?R ?C ?wf ?e ?_); (case h => rfl); (case R => assumption); (case C => assumption); (case wf => assumption); (case e => rfl)) | ((with_reducible refine' w_mChosenT ?h ?R ?C ?wf ?e ?_); (case h => rfl); (case R => assumption); (case C => assumption); (case wf => assumption); (case e => rfl)) | ((with_reducible refine' w_mView ?h ?R ?C ?wf ?e ?_); (case h => rfl); (case R => assumption); (case C => assumption); (case wf => assumption); (case e => rfl)) | ((with_reducible refine' w_m_text ?h ?_); (case h => rfl)) | ((with_reducible refine' w_m_width ?h ?_); (case h => rfl)) | ((with_reducible refine' w_m_height ?h ?_); (case h => rfl)) | ((with_reducible refine' w_m_caret ?h ?_); (case h => rfl)) | ((with_reducible refine' w_m_back ?h ?_); (case h => rfl)) | ((with_reducible refine' w_m_anchor ?h ?_); (case h => rfl)) | ((with_reducible refine' w_m_wish ?h ?_); (case h => rfl)) | ((with_reducible refine' w_m_first ?h ?_); (case h => rfl)))
local macro_rules | `(tactic| walk_at "xe") => `(tactic| repeat (first | with_reducible refine w_op ?_ | ((with_reducible refine' w_var ?h ?_); (case h => rfl)) | ((with_reducible refine' w_own ?h ?_); (case h => rfl)) | with_reducible refine w_int ?_ | ((with_reducible refine' w_k ?h ?_); (case h => decide +kernel)) | with_reducible refine w_bl ?_ | with_reducible refine w_non ?_ | with_reducible refine w_if ?_ | with_reducible refine w_andV ?_ | with_reducible refine w_orV ?_ | with_reducible refine w_notV ?_ | with_reducible refine w_tup ?_ | with_reducible refine w_lst ?_ | with_reducible refine w_cb ?_ | with_reducible refine w_chain ?_ | with_reducible refine w_slS ?_ | with_reducible refine w_slL ?_ | with_reducible refine w_find1 ?_ | with_reducible refine w_find2 ?_ | with_reducible refine w_rfind1 ?_ | with_reducible refine w_rfind3 ?_ | with_reducible refine w_neg ?_ | with_reducible refine w_ref ?_ | with_reducible refine w_ty ?_ | with_reducible refine wt_test ?_ | with_reducible refine wt_B ?_ | with_reducible refine wt_and ?_ | with_reducible refine wt_or ?_ | with_reducible refine wt_not ?_ | with_reducible refine wt_yes ?_ | with_reducible refine wd_nil ?_ | with_reducible refine wd_cons ?_ | with_reducible refine wa_nil ?_ | with_reducible refine wa_cons ?_ | with_reducible refine wo_none ?_ | with_reducible refine wo_some ?_ | with_reducible refine rd_I0i ?_ | with_reducible refine rd_I0b ?_ | with_reducible refine rd_eqI ?_ | with_reducible refine rd_neI ?_ | with_reducible refine rd_eqS ?_ | with_reducible refine rd_neS ?_ | with_reducible refine rd_isN ?_ | with_reducible refine rd_notN ?_ | with_reducible refine rd_inSign ?_ | with_reducible refine cd_lenL ?_ | ((with_reducible refine' cd_lenS ?h ?_); (case h => first | assumption | omega)) | with_reducible refine cd_lenT ?_ | with_reducible refine cd_lenR ?_ | with_reducible refine cd_abs ?_ | with_reducible refine cd_max2 ?_ | with_reducible refine cd_min2 ?_ | with_reducible refine cd_intB ?_ | with_reducible refine cd_ord ?_ | with_reducible refine g_name ?_ | with_reducible refine ⟨_, rfl, ?_⟩ | with_reducible refine rd_leS ?_ | ((with_reducible refine' w_now ?C ?h ?_); (case C => assumption); (case h => rfl)) | ((with_reducible refine' w_width ?C ?h ?_); (case C => assumption); (case h => rfl)) | ((with_reducible refine' w_height ?C ?h ?_); (case C => assumption); (case h => rfl)) | ((with_reducible refine' w_caret ?C ?h ?_); (case C => assumption); (case h => rfl)) | ((with_reducible refine' w_is_back ?C ?h ?_); (case C => assumption); (case h => rfl)) | ((with_reducible refine' w_anchor ?C ?h ?_); (case C => assumption); (case h => rfl)) | ((with_reducible refine' w_wish ?C ?h ?_); (case C => assumption); (case h => rfl)) | ((with_reducible refine' w_first ?C ?h ?_); (case C => assumption); (case h => rfl)) | ((with_reducible refine' w_mText ?h ?R ?C ?wf ?e ?_); (case h => rfl); (case R => assumption); (case C => assumption); (case wf => assumption); (case e => rfl)) | ((with_reducible refine' w_mRows ?h ?R ?C ?wf ?e ?_); (case h => rfl); (case R => assumption); (case C => assumption); (case wf => assumption); (case e => rfl)) | ((with_reducible refine' w_mAt ?h ?R ?C ?wf ?e ?_); (case h => rfl); (case R => assumption); (case C => assumption); (case wf => assumption); (case e => rfl)) | ((with_reducible refine' w_mChosen ?h ?R ?C ?wf ?e ?_); (case h => rfl); (case R => assumption); (case C => assumption); (case wf => assumption); (case e => rfl)) | ((with_reducible refine' w_mChosenT ?h ?R ?C ?wf ?e ?_); (case h => rfl); (case R => assumption); (case C => assumption); (case wf => assumption); (case e => rfl)) | ((with_reducible refine' w_mView ?h ?R ?C ?wf ?e ?_); (case h => rfl); (case R => assumption); (case C => assumption); (case wf => assumption); (case e => rfl)) | ((with_reducible refine' w_m_text ?h ?_); (case h => rfl)) | ((with_reducible refine' w_m_width ?h ?_); (case h => rfl)) | ((with_reducible refine' w_m_height ?h ?_); (case h => rfl)) | ((with_reducible refine' w_m_caret ?h ?_); (case h => rfl)) | ((with_reducible refine' w_m_back ?h ?_); (case h => rfl)) | ((with_reducible refine' w_m_anchor ?h ?_); (case h => rfl)) | ((with_reducible refine' w_m_wish ?h ?_); (case h => rfl)) | ((with_reducible refine' w_m_first ?h ?_); (case h => rfl)) | simp only [List.set_cons_succ, List.set_cons_zero]))
local macro_rules | `(tactic| walk_at "xs") => `(tactic| repeat (first | with_reducible refine t_seq ?_ | with_reducible refine t_ret ?_ | with_reducible refine t_set ?_ | with_reducible refine t_drop ?_ | with_reducible refine t_if ?_ | with_reducible refine t_next ?_ | with_reducible refine t_raise ?_ | with_reducible refine t_asg ?_ | with_reducible refine t_retN ?_ | with_reducible refine w_op ?_ | ((with_reducible refine' w_var ?h ?_); (case h => rfl)) | ((with_reducible refine' w_own ?h ?_); (case h => rfl)) | with_reducible refine w_int ?_ | ((with_reducible refine' w_k ?h ?_); (case h => decide +kernel)) | with_reducible refine w_bl ?_ | with_reducible refine w_non ?_ | with_reducible refine w_if ?_ | with_reducible refine w_andV ?_ | with_reducible refine w_orV ?_ | with_reducible refine w_notV ?_ | with_reducible refine w_tup ?_ | with_reducible refine w_lst ?_ | with_reducible refine w_cb ?_ | with_reducible refine w_chain ?_ | with_reducible refine w_slS ?_ | with_reducible refine w_slL ?_ | with_reducible refine w_find1 ?_ | with_reducible refine w_find2 ?_ | with_reducible refine w_rfind1 ?_ | with_reducible refine w_rfind3 ?_ | with_reducible refine w_neg ?_ | with_reducible refine w_ref ?_ | with_reducible refine w_ty ?_ | with_reducible refine wt_test ?_ | with_reducible refine wt_B ?_ | with_reducible refine wt_and ?_ | with_reducible refine wt_or ?_ | with_reducible refine wt_not ?_ | with_reducible refine wt_yes ?_ | with_reducible refine wd_nil ?_ | with_reducible refine wd_cons ?_ | with_reducible refine wa_nil ?_ | with_reducible refine wa_cons ?_ | with_reducible refine wo_none ?_ | with_reducible refine wo_some ?_ | with_reducible refine rd_I0i ?_ | with_reducible refine rd_I0b ?_ | with_reducible refine rd_eqI ?_ | with_reducible refine rd_neI ?_ | with_reducible refine rd_eqS ?_ | with_reducible refine rd_neS ?_ | with_reducible refine rd_isN ?_ | with_reducible refine rd_notN ?_ | with_reducible refine rd_inSign ?_ | with_reducible refine cd_lenL ?_ | ((with_reducible refine' cd_lenS ?h ?_); (case h => first | assumption | omega)) | with_reducible refine cd_lenT ?_ | with_reducible refine cd_lenR ?_ | with_reducible refine cd_abs ?_ | with_reducible refine cd_max2 ?_ | with_reducible refine cd_min2 ?_ | with_reducible refine cd_intB ?_ | with_reducible refine cd_ord ?_ | with_reducible refine g_name ?_ | with_reducible refine ⟨_, rfl, ?_⟩ | with_reducible refine rd_leS ?_ | ((with_reducible refine' w_now ?C ?h ?_); (case C => assumption); (case h => rfl)) | ((with_reducible refine' w_width ?C ?h ?_); (case C => assumption); (case h => rfl)) | ((with_reducible refine' w_height ?C ?h ?_); (case C => assumption); (case h => rfl)) | ((with_reducible refine' w_caret ?C ?h ?_); (case C => assumption); (case h => rfl)) | ((with_reducible refine' w_is_back ?C ?h ?_); (case C => assumption); (case h => rfl)) | ((with_reducible refine' w_anchor ?C ?h ?_); (case C => assumption); (case h => rfl)) | ((with_reducible refine' w_wish ?C ?h ?_); (case C => assumption); (case h => rfl)) | ((with_reducible refine' w_first ?C ?h ?_); (case C => assumption); (case h => rfl)) | ((with_reducible refine' w_mText ?h ?R ?C ?wf ?e ?_); (case h => rfl); (case R => assumption); (case C => assumption); (case wf => assumption); (case e => rfl)) | ((with_reducible refine' w_mRows ?h ?R ?C ?wf ?e ?_); (case h => rfl); (case R => assumption); (case C => assumption); (case wf => assumption); (case e => rfl)) | ((with_reducible refine' w_mAt ?h ?R ?C ?wf ?e ?_); (case h => rfl); (case R => assumption); (case C => assumption); (case wf => assumption); (case e => rfl)) | ((with_reducible refine' w_mChosen ?h ?R ?C ?wf ?e ?_); (case h => rfl); (case R => assumption); (case C => assumption); (case wf => assumption); (case e => rfl)) | ((with_reducible refine' w_mChosenT ?h ?R ?C ?wf ?e ?_); (case h => rfl); (case R => assumption); (case C => assumption); (case wf => assumption); (case e => rfl)) | ((with_reducible refine' w_mView ?h ?R ?C ?wf ?e ?_); (case h => rfl); (case R => assumption); (case C => assumption); (case wf => assumption); (case e => rfl)) | ((with_reducible refine' w_m_text ?h ?_); (case h => rfl)) | ((with_reducible refine' w_m_width ?h ?_); (case h => rfl)) | ((with_reducible refine' w_m_height ?h ?_); (case h => rfl)) | ((with_reducible refine' w_m_caret ?h ?_); (case h => rfl)) | ((with_reducible refine' w_m_back ?h ?_); (case h => rfl)) | ((with_reducible refine' w_m_anchor ?h ?_); (case h => rfl)) | ((with_reducible refine' w_m_wish ?h ?_); (case h => rfl)) | ((with_reducible refine' w_m_first ?h ?_); (case h => rfl)) | simp only [List.set_cons_succ, List.set_cons_zero]))
def f__law_move (K : PySem.W.Frag) : FS := fun ys R _ => ∃ (p : Addr) (m : Bool) (s : Sh) (mv : List Nat) (ch : Bool), ys = [.o p (omd K m s), .d (.str mv), .d (.bl ch)] ∧ Wf s ∧ Sm s ∧ R .non [some (.o p (omd K m (moveS s mv ch))), none, none]
abbrev sp__law_move (K : PySem.W.Frag) : Sp := SpOf K (f__law_move K)
def t__law_move (K : PySem.W.Frag) (E : XK) : TS := (tSeq (tAsg (tDGet2 (tDisp [((tK [117, 112] "up"), (tUn (rU fun i => .int (-i)) (tC (.int 1)))), ((tK [100, 111, 119, 110] "down"), (tC (.int 1))), ((tK [112, 97, 103, 101, 117, 112] "pageup"), (tOp rMinus (tC (.int 0)) (tDGet (tVar 0) (tK [104, 101, 105, 103, 104, 116] "height")))), ((tK [112, 97, 103, 101, 100, 111, 119, 110] "pagedown"), (tDGet (tVar 0) (tK [104, 101, 105, 103, 104, 116] "height")))]) (tVar 1) (tC (.int 0))) (gName 3))
  (tSeq (tIfS (tTest (tOp rNe (tVar 3) (tC (.int 0)))) (tSeq (tDrop (tCall (sp__law_vertical K) [] L2.E0 (tCons (tVar 0) (tCons (tVar 3) (tCons (tVar 2) tNil)))))
  tRetN) tNext)
  (tSeq (sDPut (tVar 0) (tK [119, 105, 115, 104] "wish") (tC .non))
  (tSeq (tAsg (tCall (sp__law_rows K) [] L2.E0 (tCons (tDGet (tVar 0) (tK [116, 101, 120, 116] "text")) (tCons (tDGet (tVar 0) (tK [119, 105, 100, 116, 104] "width")) tNil))) (gName 4))
  (tSeq (tAsg (tOp (rIxL K) (tVar 4) (tCall (sp__law_row K) [] L2.E0 (tCons (tVar 4) (tCons (tDGet (tVar 0) (tK [99, 97, 114, 101, 116] "caret")) (tCons (tDGet (tVar 0) (tK [98, 97, 99, 107] "back")) tNil))))) (gName 5))
  (tSeq (tAsg (tCB (rSorted K) (tCons (tLst (tCons (tDGet (tVar 0) (tK [99, 97, 114, 101, 116] "caret")) (tCons (tDGet (tVar 0) (tK [97, 110, 99, 104, 111, 114] "anchor")) tNil))) tNil)) (gName 6))
  (tIfS (tTest (tOp (rIn K false) (tVar 1) (tTup (tCons (tK [104, 111, 109, 101] "home") (tCons (tK [101, 110, 100] "end") tNil))))) (tDrop (tCall (sp__law_put K) [] L2.E0 (tCons (tVar 0) (tCons (tOp (rIxT K) (tVar 5) (tCB rInt1 (tCons (tOp rEq (tVar 1) (tK [101, 110, 100] "end")) tNil))) (tCons (tAndV (tOp rEq (tVar 1) (tK [101, 110, 100] "end")) (tOp (rIxT K) (tVar 5) (tC (.int 2)))) (tCons (tVar 2) tNil)))))) (tIfS (tAnd (tTest (tOp (rIn K false) (tVar 1) (tTup (tCons (tK [108, 101, 102, 116] "left") (tCons (tK [114, 105, 103, 104, 116] "right") tNil))))) (tAnd (tTest (tOp rLt' (tOp (rIxL K) (tVar 6) (tC (.int 0))) (tOp (rIxL K) (tVar 6) (tC (.int 1))))) (tNot (tB (tVar 2))))) (tDrop (tCall (sp__law_put K) [] L2.E0 (tCons (tVar 0) (tCons (tOp (rIxL K) (tVar 6) (tCB rInt1 (tCons (tOp rEq (tVar 1) (tK [114, 105, 103, 104, 116] "right")) tNil))) (tCons (tC (.bl false)) (tCons (tC (.bl false)) tNil)))))) (tDrop (tCall (sp__law_put K) [] L2.E0 (tCons (tVar 0) (tCons (tCall (sp__law_flat K) [] L2.E0 (tCons (tDGet (tVar 0) (tK [116, 101, 120, 116] "text")) (tCons (tDGet (tVar 0) (tK [99, 97, 114, 101, 116] "caret")) (tCons (tVar 1) tNil)))) (tCons (tC (.bl false)) (tCons (tVar 2) tNil))))))))))))))
theorem len_f__law_move {K : PySem.W.Frag} : ∀ ds R X, f__law_move K ds R X → ds.length = 3 := by
  rintro ds R X ⟨_, _, _, _, _, rfl, _⟩
  rfl
theorem len__law_move {K : PySem.W.Frag} : ∀ vs H Q E, sp__law_move K vs H Q E → vs.length = 3 := fun _ _ _ _ h => spOf_len len_f__law_move h
theorem cl__law_move {K : PySem.W.Frag} {δ : Dl} {P : PX} {X : XX} {p : Addr} {m : Bool} {s : Sh} {i : Nat} {mv : List Nat} {ch : Bool} (hi : δ[i]? = some (some (.o p (omd K m s)))) (wf : Wf s) (sm : Sm s) (k : P (.d .non) (δ.set i (some (.o p (omd K m (moveS s mv ch)))))) : Cl (f__law_move K) [.a p, .d (.str mv), .d (.bl ch)] δ P X :=
  ⟨_, [some i, none, none], .o hi (.d (.d .nil)), uq3o, p, m, s, mv, ch, rfl, wf, sm, k⟩
theorem pure__law_move {K : PySem.W.Frag} {vs : List V} {H : Hp} {Q : VK} {E : XK} (h : sp__law_move K vs H Q E) : t__law_move K E { nx := fun _ H' => Q .non H', rt := Q } (L2.start ["sheet", "move", "is_choosing", "many", "rows", "row", "some"] vs) H := by
  refine body (ts := t__law_move K) 3 4 rfl len_f__law_move (fun ds R X ⟨p, m, s, mv, ch, e, wf, sm, hk⟩ => ?_) h
  subst e
  show T K _ (t__law_move K E) [some (.o p (omd K m s)), some (.d (.str mv)), some (.d (.bl ch)), none, none, none, none] _ _ _
  unfold t__law_move
  have hl := wf.l
  have hw := sm.w
  have hc := wf.c
  have ha := wf.a
  have hch := wf.ch
  have hrl := wf.rl
  have hh := wf.h1
  have hlt := curS_lt wf
  have hr := rowR_get hlt
  have hrd : ((rowsS s).map dT)[curS s]? = some (dT (rowR (rowsS s) (curS s))) := by rw [List.getElem?_map, hr]; rfl
  have hm := hch.mem _ (rowR_mem hlt)
  refine t_seq (t_set (w_dispGet2 ?_))
  refine wp_cons (by decide +kernel) ?_
  walk_at "xe"
  refine wp_cons (by decide +kernel) ?_
  walk_at "xe"
  refine wp_cons (by decide +kernel) ?_
  walk_at "xe"
  refine wp_cons (by decide +kernel) ?_
  walk_at "xe"
  refine wp_nil ⟨by show 4 ≤ 15; decide, by show ([mUp, mDown, mPgU, mPgD] : List (List Nat)).Nodup; decide, ?_⟩
  have hlk : (lookD [(mUp, Da.int (-1)), (mDown, .int 1), (mPgU, .int (0 - (s.height : Int))), (mPgD, .int (s.height : Int))] mv).getD (.int 0) = .int ((vertM s.height mv).getD 0) := by
    by_cases hb : mv ∈ vertL
    · unfold vertL at hb
      simp only [List.mem_cons, List.not_mem_nil, or_false] at hb
      rcases hb with rfl | rfl | rfl | rfl <;> rfl
    · rw [vertM_none.mpr hb]
      simp only [vertL, List.mem_cons, List.not_mem_nil, or_false, not_or] at hb
      have : lookD [(mUp, Da.int (-1)), (mDown, .int 1), (mPgU, .int (0 - (s.height : Int))), (mPgD, .int (s.height : Int))] mv = none := by
        unfold lookD
        simp only [List.find?_cons, List.find?_nil]
        rw [decide_eq_false (fun z => hb.1 z.symm), decide_eq_false (fun z => hb.2.1 z.symm), decide_eq_false (fun z => hb.2.2.1 z.symm), decide_eq_false (fun z => hb.2.2.2 z.symm)]
        rfl
      rw [this]
      rfl
  refine w_var rfl ⟨mv, rfl, w_int ⟨_, rfl, ?_⟩⟩
  refine ⟨_, rfl, ?_⟩
  show T K _ _ [some (.o p (omd K m s)), some (.d (.str mv)), some (.d (.bl ch)), some (.d ((lookD [(mUp, Da.int (-1)), (mDown, .int 1), (mPgU, .int (0 - (s.height : Int))), (mPgD, .int (s.height : Int))] mv).getD (.int 0))), none, none, none] _ _ _
  rw [hlk]
  have hk : R .non [some (.o p (omd K m (moveS s mv ch))), none, none] := hk
  have hmz : ∀ x, vertM s.height mv = some x → x ≠ 0 := fun x hx => by
    unfold vertM at hx
    split at hx
    · cases hx; decide
    split at hx
    · cases hx; decide
    split at hx
    · cases hx; omega
    split at hx
    · cases hx; omega
    · exact nomatch hx
  unfold moveS at hk
  cases hvm : vertM s.height mv with
  | some v =>
    rw [hvm] at hk
    have hv := hmz v hvm
    refine t_seq (t_if (wt_test (w_op (w_var rfl (w_int (rd_neI ⟨_, rfl, fun _ => ?_, fun z => ?_⟩))))))
    · refine t_seq (t_drop (w_call ?_))
      walk_at "xe"
      exact cl__law_vertical (i := 0) rfl wf sm hv (t_retN ⟨hk, rfl, trivial⟩)
    · simp at z
      exact absurd z hv
  | none =>
    rw [hvm] at hk
    have hk : R .non [some (.o p (omd K m (flatS s mv ch))), none, none] := hk
    refine t_seq (t_if (wt_test (w_op (w_var rfl (w_int (rd_neI ⟨_, rfl, (fun z => nomatch z), fun _ => t_next ?_⟩))))))
    refine t_seq (t_m_wish (w_non ⟨none, p, s, m, rfl, rfl, ?_⟩))
    have wt1 : Wt { s with wish := none } := (wf.wish none).wt
    have sm1 : Sm { s with wish := none } := ⟨sm.w⟩
    refine t_seq (t_set (w_fn ?_))
    walk_at "xe"
    refine ⟨s.now, s.width, rfl, hl, hw, wf.w1, _, rfl, ?_⟩
    refine t_seq (t_set (w_op (w_var rfl (w_fn ?_))))
    walk_at "xe"
    refine ⟨rowsS s, s.now.length, s.caret, s.back, rfl, by omega, hch, hc, rd_ixL (atI_nat hrd) ⟨_, rfl, ?_⟩⟩
    refine t_seq (t_set (w_cb (wa_cons ?_)))
    walk_at "xe"
    refine ⟨by show 2 ≤ 16000000; decide, ?_⟩
    walk_at "xe"
    refine cd_sort2 ⟨_, rfl, ?_⟩
    show T K _ _ [some (.o p (omd K m { s with wish := none })), some (.d (.str mv)), some (.d (.bl ch)), some (.d (.int 0)), some (.d (.lst ((rowsS s).map dT))), some (.d (dT (rowR (rowsS s) (curS s)))), some (.d (.lst [.int ((min s.caret s.anchor : Nat) : Int), .int ((max s.caret s.anchor : Nat) : Int)]))] _ _ _
    unfold flatS at hk
    walk_at "xs"
    refine ⟨by show 2 ≤ 16000000; decide, ?_⟩
    refine rd_inT (ls := [mHome, mEnd]) ⟨_, rfl, fun hb => ?_, fun n1 => ?_⟩
    · have hb : mv ∈ [mHome, mEnd] := of_decide_eq_true hb
      refine t_drop (w_call (wa_cons (w_own rfl (wa_cons ?_))))
      by_cases hb2 : mv = mHome
      · subst hb2
        rw [if_pos rfl] at hk
        walk_at "xe"
        refine rd_ixT (d := .int (rowR (rowsS s) (curS s)).1) rfl ?_
        walk_at "xe"
        refine ⟨(fun z => nomatch z), fun _ => ?_⟩
        walk_at "xe"
        exact cl__law_put (i := 0) rfl wt1 sm1 (by show _ ≤ s.now.length; omega) ⟨hk, rfl, trivial⟩
      · have hb3 : mv = mEnd := by simpa [hb2] using hb
        subst hb3
        rw [if_neg hb2, if_pos rfl, putB_eq] at hk
        have es : (true && softE (rowsS { s with wish := none }) (rowAt (rowsS { s with wish := none }) (rowR (rowsS s) (curS s)).2.1 true) (rowR (rowsS s) (curS s)).2.1) = (rowR (rowsS s) (curS s)).2.2 := by
          rw [Bool.true_and]
          exact soft_end hch (sf_rowsW wf.w1 _) hr
        rw [es] at hk
        walk_at "xe"
        refine rd_ixT (d := .int (rowR (rowsS s) (curS s)).2.1) rfl ?_
        walk_at "xe"
        refine ⟨fun _ => ?_, fun z => nomatch z⟩
        walk_at "xe"
        refine rd_ixT (d := .bl (rowR (rowsS s) (curS s)).2.2) rfl ?_
        walk_at "xe"
        exact cl__law_put (i := 0) rfl wt1 sm1 (by show _ ≤ s.now.length; omega) ⟨hk, rfl, trivial⟩
    have n1 : ¬ mv ∈ [mHome, mEnd] := of_decide_eq_false n1
    have n2 : ¬ mv = mHome := fun z => n1 (by rw [z]; exact List.mem_cons_self)
    have n3 : ¬ mv = mEnd := fun z => n1 (by rw [z]; exact List.mem_cons_of_mem _ List.mem_cons_self)
    rw [if_neg n2, if_neg n3] at hk
    have third : ¬ ((mv = mLeft ∨ mv = mRight) ∧ min s.caret s.anchor < max s.caret s.anchor ∧ ch = false) → T K (fun c d _ H => E c d H) (tDrop (tCall (sp__law_put K) [] L2.E0 (tCons (tVar 0) (tCons (tCall (sp__law_flat K) [] L2.E0 (tCons (tDGet (tVar 0) (tK [116, 101, 120, 116] "text")) (tCons (tDGet (tVar 0) (tK [99, 97, 114, 101, 116] "caret")) (tCons (tVar 1) tNil)))) (tCons (tC (.bl false)) (tCons (tVar 2) tNil)))))) [some (.o p (omd K m { s with wish := none })), some (.d (.str mv)), some (.d (.bl ch)), some (.d (.int 0)), some (.d (.lst ((rowsS s).map dT))), some (.d (dT (rowR (rowsS s) (curS s)))), some (.d (.lst [.int ((min s.caret s.anchor : Nat) : Int), .int ((max s.caret s.anchor : Nat) : Int)]))] (fun δ' => R .non (outs [.o p (omd K m s), .d (.str mv), .d (.bl ch)] δ') ∧ keepP [.o p (omd K m s), .d (.str mv), .d (.bl ch)] δ') (fun x δ' => RetD K 3 x δ' (fun d => R d (outs [.o p (omd K m s), .d (.str mv), .d (.bl ch)] δ')) ∧ keepP [.o p (omd K m s), .d (.str mv), .d (.bl ch)] δ') (fun C δ' => X C (outs [.o p (omd K m s), .d (.str mv), .d (.bl ch)] δ') ∧ keepP [.o p (omd K m s), .d (.str mv), .d (.bl ch)] δ') := fun n4 => by
      rw [if_neg n4] at hk
      refine t_drop (w_call (wa_cons (w_own rfl (wa_cons (w_fn ?_)))))
      walk_at "xe"
      refine ⟨s.now, s.caret, mv, rfl, wf.t, hc, ?_⟩
      walk_at "xe"
      exact cl__law_put (i := 0) rfl wt1 sm1 (fg_le hc (flatF_fg hc mv)) ⟨hk, rfl, trivial⟩
    refine t_if (wt_and (wt_test (w_op (w_var rfl (w_tup ?_)))))
    walk_at "xe"
    refine ⟨by show 2 ≤ 16000000; decide, ?_⟩
    refine rd_inT (ls := [mLeft, mRight]) ⟨_, rfl, fun hb => ?_, fun n5 => ?_⟩
    · have hb : mv ∈ [mLeft, mRight] := of_decide_eq_true hb
      have hb' : mv = mLeft ∨ mv = mRight := by simpa using hb
      refine wt_and (wt_test ?_)
      walk_at "xe"
      refine rd_ixL (d := .int ((min s.caret s.anchor : Nat) : Int)) (atI_nat (i := 0) rfl) ?_
      walk_at "xe"
      refine rd_ixL (d := .int ((max s.caret s.anchor : Nat) : Int)) (atI_nat (i := 1) rfl) ?_
      walk_at "xe"
      refine ⟨fun h1 => ?_, fun h1 => ?_⟩
      · have h1 := of_decide_eq_true h1
        walk_at "xe"
        cases ch with
        | true => exact ⟨(fun z => nomatch z), fun _ => third fun z => nomatch z.2.2⟩
        | false =>
          refine ⟨fun _ => ?_, fun z => nomatch z⟩
          rw [if_pos ⟨hb', by omega, rfl⟩] at hk
          refine t_drop (w_call (wa_cons (w_own rfl (wa_cons ?_))))
          rcases hb' with h2 | h2
          · subst h2
            rw [if_pos rfl] at hk
            walk_at "xe"
            refine rd_ixL (d := .int ((min s.caret s.anchor : Nat) : Int)) (atI_nat (i := 0) rfl) ?_
            walk_at "xe"
            exact cl__law_put (i := 0) rfl wt1 sm1 (by show _ ≤ s.now.length; omega) ⟨hk, rfl, trivial⟩
          · subst h2
            rw [if_neg (by decide)] at hk
            walk_at "xe"
            refine rd_ixL (d := .int ((max s.caret s.anchor : Nat) : Int)) (atI_nat (i := 1) rfl) ?_
            walk_at "xe"
            exact cl__law_put (i := 0) rfl wt1 sm1 (by show _ ≤ s.now.length; omega) ⟨hk, rfl, trivial⟩
      · have h1 := of_decide_eq_false h1
        exact ⟨(fun z => nomatch z), fun _ => third fun z => h1 (by have := z.2.1; omega)⟩
    · have n5 : ¬ mv ∈ [mLeft, mRight] := of_decide_eq_false n5
      exact ⟨(fun z => nomatch z), fun _ => third fun z => n5 (by simpa using z.1)⟩
end Cr

namespace Cr
open PySem L2
local macro_rules | `(tactic| walk_at "x") => `(tactic| first | with_reducible refine t_seq ?_ | with_reducible refine t_ret ?_ | with_reducible refine t_set ?_ | with_reducible refine t_drop ?_ | with_reducible refine t_if ?_ | with_reducible refine t_next ?_ | with_reducible refine t_raise ?_ | with_reducible refine t_asg ?_ | with_reducible refine t_retN ?_ | with_reducible refine w_op ?_ | ((with_reducible refine' w_var ?h ?_); (case h => rfl)) | ((with_reducible refine' w_own ?h ?_); (case h => rfl)) | with_reducible refine w_int ?_ | ((with_reducible refine' w_k ?h ?_); (case h => decide +kernel)) | with_reducible refine w_bl ?_ | with_reducible refine w_non ?_ | with_reducible refine w_if ?_ | with_reducible refine w_andV ?_ | with_reducible refine w_orV ?_ | with_reducible refine w_notV ?_ | with_reducible refine w_tup ?_ | with_reducible refine w_lst ?_ | with_reducible refine w_cb ?_ | with_reducible refine w_chain ?_ | with_reducible refine w_slS ?_ | with_reducible refine w_slL ?_ | with_reducible refine w_find1 ?_ | with_reducible refine w_find2 ?_ | with_reducible refine w_rfind1 ?_ | with_reducible refine w_rfind3 ?_ | with_reducible refine w_neg ?_ | with_reducible refine w_ref ?_ | with_reducible refine w_ty ?_ | with_reducible refine wt_test ?_ | with_reducible refine wt_B ?_ | with_reducible refine wt_and ?_ | with_reducible refine wt_or ?_ | with_reducible refine wt_not ?_ | with_reducible refine wt_yes ?_ | with_reducible refine wd_nil ?_ | with_reducible refine wd_cons ?_ | with_reducible refine wa_nil ?_ | with_reducible refine wa_cons ?_ | with_reducible refine wo_none ?_ | with_reducible refine wo_some ?_ | with_reducible refine rd_I0i ?_ | with_reducible refine rd_I0b ?_ | with_reducible refine rd_eqI ?_ | with_reducible refine rd_neI ?_ | with_reducible refine rd_eqS ?_ | with_reducible refine rd_neS ?_ | with_reducible refine rd_isN ?_ | with_reducible refine rd_notN ?_ | with_reducible refine rd_inSign ?_ | with_reducible refine cd_lenL ?_ | ((with_reducible refine' cd_lenS ?h ?_); (case h => first | assumption | omega)) | with_reducible refine cd_lenT ?_ | with_reducible refine cd_lenR ?_ | with_reducible refine cd_abs ?_ | with_reducible refine cd_max2 ?_ | with_reducible refine cd_min2 ?_ | with_reducible refine cd_intB ?_ | with_reducible refine cd_ord ?_ | with_reducible refine g_name ?_ | with_reducible refine ⟨_, rfl, ?_⟩ | with_reducible refine rd_leS ?_ | ((with_reducible refine' w_now ?C ?h ?_); (case C => assumption); (case h => rfl)) | ((with_reducible refine' w_width ?C ?h ?_); (case C => assumption); (case h => rfl)) | ((with_reducible refine' w_height ?C ?h ?_); (case C => assumption); (case h => rfl)) | ((with_reducible refine' w_caret ?C ?h ?_); (case C => assumption); (case h => rfl)) | ((with_reducible refine' w_is_back ?C ?h ?_); (case C => assumption); (case h => rfl)) | ((with_reducible refine' w_anchor ?C ?h ?_); (case C => assumption); (case h => rfl)) | ((with_reducible refine' w_wish ?C ?h ?_); (case C => assumption); (case h => rfl)) | ((with_reducible refine' w_first ?C ?h ?_); (case C => assumption); (case h => rfl)) | ((with_reducible refine' w_mText ?h ?R ?C ?wf ?e ?_); (case h => rfl); (case R => assumption); (case C => assumption); (case wf => assumption); (case e => rfl)) | ((with_reducible refine' w_mRows ?h ?R ?C ?wf ?e ?_); (case h => rfl); (case R => assumption); (case C => assumption); (case wf => assumption); (case e => rfl)) | ((with_reducible refine' w_mAt ?h ?R ?C ?wf ?e ?_); (case h => rfl); (case R => assumption); (case C => assumption); (case wf => assumption); (case e => rfl)) | ((with_reducible refine' w_mChosen ?h ?R ?C ?wf ?e ?_); (case h => rfl); (case R => assumption); (case C => assumption); (case wf => assumption); (case e => rfl)) | ((with_reducible refine' w_mChosenT ?h ?R ?C ?wf ?e ?_); (case h => rfl); (case R => assumption); (case C => assumption); (case wf => assumption); (case e => rfl)) | ((with_reducible refine' w_mView ?h ?R ?C ?wf ?e ?_); (case h => rfl); (case R => assumption); (case C => assumption); (case wf => assumption); (case e => rfl)) | ((with_reducible refine' w_m_text ?h ?_); (case h => rfl)) | ((with_reducible refine' w_m_width ?h ?_); (case h => rfl)) | ((with_reducible refine' w_m_height ?h ?_); (case h => rfl)) | ((with_reducible refine' w_m_caret ?h ?_); (case h => rfl)) | ((with_reducible refine' w_m_back ?h ?_); (case h => rfl)) | ((with_reducible refine' w_m_anchor ?h ?_); (case h => rfl)) | ((with_reducible refine' w_m_wish ?h ?_); (case h => rfl)) | ((with_reducible refine' w_m_first ?h ?_); (case h => rfl)))
local macro_rules | `(tactic| walk_at "xe") => `(tactic| repeat (first | with_reducible refine w_op ?_ | ((with_reducible refine' w_var ?h ?_); (case h => rfl)) | ((with_reducible refine' w_own ?h ?_); (case h => rfl)) | with_reducible refine w_int ?_ | ((with_reducible refine' w_k ?h ?_); (case h => decide +kernel)) | with_reducible refine w_bl ?_ | with_reducible refine w_non ?_ | with_reducible refine w_if ?_ | with_reducible refine w_andV ?_ | with_reducible refine w_orV ?_ | with_reducible refine w_notV ?_ | with_reducible refine w_tup ?_ | with_reducible refine w_lst ?_ | with_reducible refine w_cb ?_ | with_reducible refine w_chain ?_ | with_reducible refine w_slS ?_ | with_reducible refine w_slL ?_ | with_reducible refine w_find1 ?_ | with_reducible refine w_find2 ?_ | with_reducible refine w_rfind1 ?_ | with_reducible refine w_rfind3 ?_ | with_reducible refine w_neg ?_ | with_reducible refine w_ref ?_ | with_reducible refine w_ty ?_ | with_reducible refine wt_test ?_ | with_reducible refine wt_B ?_ | with_reducible refine wt_and ?_ | with_reducible refine wt_or ?_ | with_reducible refine wt_not ?_ | with_reducible refine wt_yes ?_ | with_reducible refine wd_nil ?_ | with_reducible refine wd_cons ?_ | with_reducible refine wa_nil ?_ | with_reducible refine wa_cons ?_ | with_reducible refine wo_none ?_ | with_reducible refine wo_some ?_ | with_reducible refine rd_I0i ?_ | with_reducible refine rd_I0b ?_ | with_reducible refine rd_eqI ?_ | with_reducible refine rd_neI ?_ | with_reducible refine rd_eqS ?_ | with_reducible refine rd_neS ?_ | with_reducible refine rd_isN ?_ | with_reducible refine rd_notN ?_ | with_reducible refine rd_inSign ?_ | with_reducible refine cd_lenL ?_ | ((with_reducible refine' cd_lenS ?h ?_); (case h => first | assumption | omega)) | with_reducible refine cd_lenT ?_ | with_reducible refine cd_lenR ?_ | with_reducible refine cd_abs ?_ | with_reducible refine cd_max2 ?_ | with_reducible refine cd_min2 ?_ | with_reducible refine cd_intB ?_ | with_reducible refine cd_ord ?_ | with_reducible refine g_name ?_ | with_reducible refine ⟨_, rfl, ?_⟩ | with_reducible refine rd_leS ?_ | ((with_reducible refine' w_now ?C ?h ?_); (case C => assumption); (case h => rfl)) | ((with_reducible refine' w_width ?C ?h ?_); (case C => assumption); (case h => rfl)) | ((with_reducible refine' w_height ?C ?h ?_); (case C => assumption); (case h => rfl)) | ((with_reducible refine' w_caret ?C ?h ?_); (case C => assumption); (case h => rfl)) | ((with_reducible refine' w_is_back ?C ?h ?_); (case C => assumption); (case h => rfl)) | ((with_reducible refine' w_anchor ?C ?h ?_); (case C => assumption); (case h => rfl)) | ((with_reducible refine' w_wish ?C ?h ?_); (case C => assumption); (case h => rfl)) | ((with_reducible refine' w_first ?C ?h ?_); (case C => assumption); (case h => rfl)) | ((with_reducible refine' w_mText ?h ?R ?C ?wf ?e ?_); (case h => rfl); (case R => assumption); (case C => assumption); (case wf => assumption); (case e => rfl)) | ((with_reducible refine' w_mRows ?h ?R ?C ?wf ?e ?_); (case h => rfl); (case R => assumption); (case C => assumption); (case wf => assumption); (case e => rfl)) | ((with_reducible refine' w_mAt ?h ?R ?C ?wf ?e ?_); (case h => rfl); (case R => assumption); (case C => assumption); (case wf => assumption); (case e => rfl)) | ((with_reducible refine' w_mChosen ?h ?R ?C ?wf ?e ?_); (case h => rfl); (case R => assumption); (case C => assumption); (case wf => assumption); (case e => rfl)) | ((with_reducible refine' w_mChosenT ?h ?R ?C ?wf ?e ?_); (case h => rfl); (case R => assumption); (case C => assumption); (case wf => assumption); (case e => rfl)) | ((with_reducible refine' w_mView ?h ?R ?C ?wf ?e ?_); (case h => rfl); (case R => assumption); (case C => assumption); (case wf => assumption); (case e => rfl)) | ((with_reducible refine' w_m_text ?h ?_); (case h => rfl)) | ((with_reducible refine' w_m_width ?h ?_); (case h => rfl)) | ((with_reducible refine' w_m_height ?h ?_); (case h => rfl)) | ((with_reducible refine' w_m_caret ?h ?_); (case h => rfl)) | ((with_reducible refine' w_m_back ?h ?_); (case h => rfl)) | ((with_reducible refine' w_m_anchor ?h ?_); (case h => rfl)) | ((with_reducible refine' w_m_wish ?h ?_); (case h => rfl)) | ((with_reducible refine' w_m_first ?h ?_); (case h => rfl)) | simp only [List.set_cons_succ, List.set_cons_zero]))
local macro_rules | `(tactic| walk_at "xs") => `(tactic| repeat (first | with_reducible refine t_seq ?_ | with_reducible refine t_ret ?_ | with_reducible refine t_set ?_ | with_reducible refine t_drop ?_ | with_reducible refine t_if ?_ | with_reducible refine t_next ?_ | with_reducible refine t_raise ?_ | with_reducible refine t_asg ?_ | with_reducible refine t_retN ?_ | with_reducible refine w_op ?_ | ((with_reducible refine' w_var ?h ?_); (case h => rfl)) | ((with_reducible refine' w_own ?h ?_); (case h => rfl)) | with_reducible refine w_int ?_ | ((with_reducible refine' w_k ?h ?_); (case h => decide +kernel)) | with_reducible refine w_bl ?_ | with_reducible refine w_non ?_ | with_reducible refine w_if ?_ | with_reducible refine w_andV ?_ | with_reducible refine w_orV ?_ | with_reducible refine w_notV ?_ | with_reducible refine w_tup ?_ | with_reducible refine w_lst ?_ | with_reducible refine w_cb ?_ | with_reducible refine w_chain ?_ | with_reducible refine w_slS ?_ | with_reducible refine w_slL ?_ | with_reducible refine w_find1 ?_ | with_reducible refine w_find2 ?_ | with_reducible refine w_rfind1 ?_ | with_reducible refine w_rfind3 ?_ | with_reducible refine w_neg ?_ | with_reducible refine w_ref ?_ | with_reducible refine w_ty ?_ | with_reducible refine wt_test ?_ | with_reducible refine wt_B ?_ | with_reducible refine wt_and ?_ | with_reducible refine wt_or ?_ | with_reducible refine wt_not ?_ | with_reducible refine wt_yes ?_ | with_reducible refine wd_nil ?_ | with_reducible refine wd_cons ?_ | with_reducible refine wa_nil ?_ | with_reducible refine wa_cons ?_ | with_reducible refine wo_none ?_ | with_reducible refine wo_some ?_ | with_reducible refine rd_I0i ?_ | with_reducible refine rd_I0b ?_ | with_reducible refine rd_eqI ?_ | with_reducible refine rd_neI ?_ | with_reducible refine rd_eqS ?_ | with_reducible refine rd_neS ?_ | with_reducible refine rd_isN ?_ | with_reducible refine rd_notN ?_ | with_reducible refine rd_inSign ?_ | with_reducible refine cd_lenL ?_ | ((with_reducible refine' cd_lenS ?h ?_); (case h => first | assumption | omega)) | with_reducible refine cd_lenT ?_ | with_reducible refine cd_lenR ?_ | with_reducible refine cd_abs ?_ | with_reducible refine cd_max2 ?_ | with_reducible refine cd_min2 ?_ | with_reducible refine cd_intB ?_ | with_reducible refine cd_ord ?_ | with_reducible refine g_name ?_ | with_reducible refine ⟨_, rfl, ?_⟩ | with_reducible refine rd_leS ?_ | ((with_reducible refine' w_now ?C ?h ?_); (case C => assumption); (case h => rfl)) | ((with_reducible refine' w_width ?C ?h ?_); (case C => assumption); (case h => rfl)) | ((with_reducible refine' w_height ?C ?h ?_); (case C => assumption); (case h => rfl)) | ((with_reducible refine' w_caret ?C ?h ?_); (case C => assumption); (case h => rfl)) | ((with_reducible refine' w_is_back ?C ?h ?_); (case C => assumption); (case h => rfl)) | ((with_reducible refine' w_anchor ?C ?h ?_); (case C => assumption); (case h => rfl)) | ((with_reducible refine' w_wish ?C ?h ?_); (case C => assumption); (case h => rfl)) | ((with_reducible refine' w_first ?C ?h ?_); (case C => assumption); (case h => rfl)) | ((with_reducible refine' w_mText ?h ?R ?C ?wf ?e ?_); (case h => rfl); (case R => assumption); (case C => assumption); (case wf => assumption); (case e => rfl)) | ((with_reducible refine' w_mRows ?h ?R ?C ?wf ?e ?_); (case h => rfl); (case R => assumption); (case C => assumption); (case wf => assumption); (case e => rfl)) | ((with_reducible refine' w_mAt ?h ?R ?C ?wf ?e ?_); (case h => rfl); (case R => assumption); (case C => assumption); (case wf => assumption); (case e => rfl)) | ((with_reducible refine' w_mChosen ?h ?R ?C ?wf ?e ?_); (case h => rfl); (case R => assumption); (case C => assumption); (case wf => assumption); (case e => rfl)) | ((with_reducible refine' w_mChosenT ?h ?R ?C ?wf ?e ?_); (case h => rfl); (case R => assumption); (case C => assumption); (case wf => assumption); (case e => rfl)) | ((with_reducible refine' w_mView ?h ?R ?C ?wf ?e ?_); (case h => rfl); (case R => assumption); (case C => assumption); (case wf => assumption); (case e => rfl)) | ((with_reducible refine' w_m_text ?h ?_); (case h => rfl)) | ((with_reducible refine' w_m_width ?h ?_); (case h => rfl)) | ((with_reducible refine' w_m_height ?h ?_); (case h => rfl)) | ((with_reducible refine' w_m_caret ?h ?_); (case h => rfl)) | ((with_reducible refine' w_m_back ?h ?_); (case h => rfl)) | ((with_reducible refine' w_m_anchor ?h ?_); (case h => rfl)) | ((with_reducible refine' w_m_wish ?h ?_); (case h => rfl)) | ((with_reducible refine' w_m_first ?h ?_); (case h => rfl)) | simp only [List.set_cons_succ, List.set_cons_zero]))
section
variable {K : PySem.W.Frag} {E : WX} {δ : Dl} {P : PX} {N : Dl → Prop} {R : PX} {X : XX}
theorem t_ne {ts : TS} {p q : Addr} {A B : OwnA} (i j : Nat) (hi : δ[i]? = some (some (.o p A))) (hj : δ[j]? = some (some (.o q B))) (hij : i ≠ j) (h : p ≠ q → T K E ts δ N R X) : T K E ts δ N R X := fun w σ Hb H D s n r e =>
  h (fun z => hij (s.uniq i j p A B hi (by rw [z]; exact hj))) w σ Hb H D s n r e
theorem w_ne {te : TE} {p q : Addr} {A B : OwnA} (i j : Nat) (hi : δ[i]? = some (some (.o p A))) (hj : δ[j]? = some (some (.o q B))) (hij : i ≠ j) (h : p ≠ q → W K E te δ P X) : W K E te δ P X := fun w σ Hb H s Q k e =>
  h (fun z => hij (s.uniq i j p A B hi (by rw [z]; exact hj))) w σ Hb H s Q k e
theorem wt_ne {te : TT} {PT' : Bool → Dl → Prop} {p q : Addr} {A B : OwnA} (i j : Nat) (hi : δ[i]? = some (some (.o p A))) (hj : δ[j]? = some (some (.o q B))) (hij : i ≠ j) (h : p ≠ q → WT K E te δ PT' X) : WT K E te δ PT' X := fun w σ Hb H s Q k e =>
  h (fun z => hij (s.uniq i j p A B hi (by rw [z]; exact hj))) w σ Hb H s Q k e
end
theorem uqOO {p q : Addr} {A B : OwnA} (h : p ≠ q) : Uq [.o p A, .o q B] := by
  rintro (_ | _ | i) (_ | _ | j) r C D h1 h2 <;> simp_all
theorem lv_itup {ds : List Da} (h : ∀ d ∈ ds, ∃ i, d = .int i) : lv 1 (.tup ds) := lv_tup fun d hd => by
  obtain ⟨i, rfl⟩ := h d hd
  trivial
theorem lv_atD (s : Sh) : lv 1 (atD s) := lv_itup fun d hd => by
  simp only [List.mem_cons, List.not_mem_nil, or_false] at hd
  rcases hd with rfl | rfl | rfl <;> exact ⟨_, rfl⟩
theorem lv_chD (s : Sh) : lv 1 (chD s) := lv_itup fun d hd => by
  simp only [List.mem_cons, List.not_mem_nil, or_false] at hd
  rcases hd with rfl | rfl <;> exact ⟨_, rfl⟩
theorem lv_sub {t l : List Nat} (it : isText t = true) (h : ∀ c ∈ l, c ∈ t) : ∀ n, lv n (.str l) := fun n => by
  have : ∀ c ∈ l, c < 1114112 := fun c hc => by
    have := text_ok it c (h c hc)
    unfold okSign at this
    have := of_decide_eq_true this
    omega
  cases n <;> exact this
theorem lv_texts {t : List Nat} (it : isText t = true) (L : List R3) : lv 1 (.lst (L.map fun r => .str (tx t r))) := lv_lst fun d hd => by
  obtain ⟨r, _, rfl⟩ := List.mem_map.mp hd
  exact lv_sub it (fun c hc => List.mem_of_mem_drop (List.mem_of_mem_take hc)) 0
theorem lv_up {n : Nat} {i : Int} : lv n (.int i) := by cases n <;> trivial
theorem lv_viewD {s : Sh} (it : isText s.now = true) : lv 2 (viewD s) := lv_tup fun d hd => by
  simp only [List.mem_cons, List.not_mem_nil, or_false] at hd
  rcases hd with rfl | rfl | rfl
  · exact lv_texts it _
  · trivial
  · trivial
def sameD (t : List Nat) : Da → Option Da
  | .tup [.int a, .int b, .bl _] => some (.str ((t.drop a.toNat).take (b.toNat - a.toNat)))
  | _ => none
def f__law_same (K : PySem.W.Frag) : FS := fun ys R _ => ∃ (p q : Addr) (m : Bool) (s : Sh), ys = [.o p (osh K s), .o q (omd K m s)] ∧ RwF K ∧ ShC K ∧ Wf s ∧ Sm s ∧ R (.bl true) [some (.o p (osh K s)), some (.o q (omd K m s))]
abbrev sp__law_same (K : PySem.W.Frag) : Sp := SpOf K (f__law_same K)
def t__law_same (K : PySem.W.Frag) (E : XK) : TS := (tSeq (tAsg (tCall (sp__law_rows K) [] L2.E0 (tCons (tDGet (tVar 1) (tK [116, 101, 120, 116] "text")) (tCons (tDGet (tVar 1) (tK [119, 105, 100, 116, 104] "width")) tNil))) (gName 2))
  (tSeq (tAsg (tCall (sp__law_place K) [] L2.E0 (tCons (tDGet (tVar 1) (tK [116, 101, 120, 116] "text")) (tCons (tVar 2) (tCons (tDGet (tVar 1) (tK [99, 97, 114, 101, 116] "caret")) (tCons (tDGet (tVar 1) (tK [98, 97, 99, 107] "back")) tNil))))) (gTup K 2 (gCons (gName 3) (gCons (gName 4) gNil))))
  (tSeq (tAsg (tCB (rSorted K) (tCons (tLst (tCons (tDGet (tVar 1) (tK [99, 97, 114, 101, 116] "caret")) (tCons (tDGet (tVar 1) (tK [97, 110, 99, 104, 111, 114] "anchor")) tNil))) tNil)) (gName 5))
  (tSeq (tIfS (tOr (tTest (tOp rNe (tMeth (He.ga K "Sheet") "text" (sp_Sheet_text K) [] L2.E0 (tVar 0) tNil) (tDGet (tVar 1) (tK [116, 101, 120, 116] "text")))) (tTest (tOp (rNeD K) (tMeth (He.ga K "Sheet") "at" (sp_Sheet_at K) [] L2.E0 (tVar 0) tNil) (tTup (tCons (tDGet (tVar 1) (tK [99, 97, 114, 101, 116] "caret")) (tCons (tVar 3) (tCons (tVar 4) tNil))))))) (tRet (tC (.bl false))) tNext)
  (tSeq (tIfS (tOr (tTest (tOp (rNeD K) (tMeth (He.ga K "Sheet") "chosen" (sp_Sheet_chosen K) [] L2.E0 (tVar 0) tNil) (tTup (tCons (tOp (rIxL K) (tVar 5) (tC (.int 0))) (tCons (tOp (rIxL K) (tVar 5) (tC (.int 1))) tNil))))) (tTest (tOp rNe (tMeth (He.ga K "Sheet") "chosen_text" (sp_Sheet_chosen_text K) [] L2.E0 (tVar 0) tNil) (tSl rSlS (tDGet (tVar 1) (tK [116, 101, 120, 116] "text")) (tPart (tOp (rIxL K) (tVar 5) (tC (.int 0)))) (tPart (tOp (rIxL K) (tVar 5) (tC (.int 1)))))))) (tRet (tC (.bl false))) tNext)
  (tSeq (tAsg (tDGet (tVar 1) (tK [102, 105, 114, 115, 116] "first")) (gName 6))
  (tSeq (tAsg (tLc (iList K (tSl (rSlL K) (tVar 2) (tPart (tVar 6)) (tPart (tOp rPlus (tVar 6) (tDGet (tVar 1) (tK [104, 101, 105, 103, 104, 116] "height")))))) (gName 8) tYes (tSl rSlS (tDGet (tVar 1) (tK [116, 101, 120, 116] "text")) (tPart (tOp (rIxT K) (tVar 8) (tC (.int 0)))) (tPart (tOp (rIxT K) (tVar 8) (tC (.int 1))))) [8]) (gName 7))
  (tRet (tOp (rEqD K) (tMeth (He.ga K "Sheet") "view" (sp_Sheet_view K) [] L2.E0 (tVar 0) tNil) (tTup (tCons (tVar 7) (tCons (tOp rMinus (tVar 3) (tVar 6)) (tCons (tVar 4) tNil)))))))))))))
theorem len_f__law_same {K : PySem.W.Frag} : ∀ ds R X, f__law_same K ds R X → ds.length = 2 := by
  rintro ds R X ⟨_, _, _, _, rfl, _⟩
  rfl
theorem len__law_same {K : PySem.W.Frag} : ∀ vs H Q E, sp__law_same K vs H Q E → vs.length = 2 := fun _ _ _ _ h => spOf_len len_f__law_same h
theorem cl__law_same {K : PySem.W.Frag} {δ : Dl} {P : PX} {X : XX} {p q : Addr} {m : Bool} {s : Sh} {i j : Nat} (hi : δ[i]? = some (some (.o p (osh K s)))) (hj : δ[j]? = some (some (.o q (omd K m s)))) (hne : p ≠ q) (F : RwF K) (C : ShC K) (wf : Wf s) (sm : Sm s) (k : P (.d (.bl true)) ((δ.set j (some (.o q (omd K m s)))).set i (some (.o p (osh K s))))) : Cl (f__law_same K) [.a p, .a q] δ P X :=
  ⟨_, [some i, some j], .o hi (.o hj .nil), uqOO hne, p, q, m, s, rfl, F, C, wf, sm, k⟩
theorem pure__law_same {K : PySem.W.Frag} {vs : List V} {H : Hp} {Q : VK} {E : XK} (h : sp__law_same K vs H Q E) : t__law_same K E { nx := fun _ H' => Q .non H', rt := Q } (L2.start ["sheet", "model", "rows", "number", "column", "some", "first", "texts", "row"] vs) H := by
  refine body (ts := t__law_same K) 2 7 rfl len_f__law_same (fun ds R X ⟨p, q, m, s, e, F, C, wf, sm, hk⟩ => ?_) h
  subst e
  show T K _ (t__law_same K E) [some (.o p (osh K s)), some (.o q (omd K m s)), none, none, none, none, none, none, none] _ _ _
  unfold t__law_same
  have hl := wf.l
  have hw := sm.w
  have hc := wf.c
  have ha := wf.a
  have hch := wf.ch
  have hrl := wf.rl
  refine t_seq (t_set (w_fn ?_))
  walk_at "xe"
  refine ⟨s.now, s.width, rfl, hl, hw, wf.w1, _, rfl, ?_⟩
  refine t_seq (t_asg (w_fn ?_))
  walk_at "xe"
  refine ⟨s.now, rowsS s, s.caret, s.back, rfl, by omega, by omega, hch, hc, _, rfl, ?_⟩
  unfold placeD
  refine g_tup rfl (gs_cons (g_name (gs_cons (g_name (gs_nil ?_)))))
  refine t_seq (t_set (w_cb (wa_cons ?_)))
  walk_at "xe"
  refine ⟨by show 2 ≤ 16000000; decide, ?_⟩
  walk_at "xe"
  refine cd_sort2 ⟨_, rfl, ?_⟩
  show T K _ _ [some (.o p (osh K s)), some (.o q (omd K m s)), some (.d (.lst ((rowsS s).map dT))), some (.d (.int ((curS s : Nat) : Int))), some (.d (.int ((colOf s.now (rowR (rowsS s) (curS s)).1 s.caret : Nat) : Int))), some (.d (.lst [.int ((min s.caret s.anchor : Nat) : Int), .int ((max s.caret s.anchor : Nat) : Int)])), none, none, none] _ _ _
  refine t_seq (t_if (wt_or (wt_test (w_op ?_))))
  walk_at "xe"
  refine ⟨(fun z => nomatch z), fun _ => wt_test (w_op ?_)⟩
  walk_at "xe"
  refine ⟨by show 3 ≤ 16000000; decide, ?_⟩
  refine rd_neD 1 1 (lv_atD s) (lv_atD s) ?_
  have e1 : eqd (atD s) (.tup [.int (s.caret : Int), .int ((curS s : Nat) : Int), .int ((colOf s.now (rowR (rowsS s) (curS s)).1 s.caret : Nat) : Int)]) = true := eqd_refl (lv_atD s)
  rw [e1]
  refine ⟨_, rfl, (fun z => nomatch z), fun _ => t_next ?_⟩
  refine t_seq (t_if (wt_or (wt_test (w_op ?_))))
  walk_at "xe"
  refine rd_ixL (d := .int ((min s.caret s.anchor : Nat) : Int)) (atI_nat (i := 0) rfl) ⟨_, rfl, ?_⟩
  walk_at "xe"
  refine rd_ixL (d := .int ((max s.caret s.anchor : Nat) : Int)) (atI_nat (i := 1) rfl) ⟨_, rfl, ?_⟩
  walk_at "xe"
  refine ⟨by show 2 ≤ 16000000; decide, ?_⟩
  refine rd_neD 1 1 (lv_chD s) (lv_chD s) ?_
  have e2 : eqd (chD s) (.tup [.int ((min s.caret s.anchor : Nat) : Int), .int ((max s.caret s.anchor : Nat) : Int)]) = true := eqd_refl (lv_chD s)
  rw [e2]
  refine ⟨_, rfl, (fun z => nomatch z), fun _ => wt_test (w_op ?_)⟩
  walk_at "xe"
  refine ⟨by omega, ?_⟩
  walk_at "xe"
  refine rd_ixL (d := .int ((min s.caret s.anchor : Nat) : Int)) (atI_nat (i := 0) rfl) ⟨_, rfl, ?_⟩
  walk_at "xe"
  refine rd_ixL (d := .int ((max s.caret s.anchor : Nat) : Int)) (atI_nat (i := 1) rfl) ⟨_, rfl, ?_⟩
  rw [cut_nat]
  walk_at "xe"
  have e3 : decide (chT s = (s.now.drop (min s.caret s.anchor)).take (max s.caret s.anchor - min s.caret s.anchor)) = true := decide_eq_true rfl
  rw [e3]
  refine ⟨(fun z => nomatch z), fun _ => t_next ?_⟩
  refine t_seq (t_set (w_m_first rfl ⟨_, rfl, ?_⟩))
  refine t_seq (t_set (w_lcP (sameD s.now) (wi_list (w_slL ?_))))
  walk_at "xe"
  have ec : cut ((rowsS s).map dT) (some (s.first : Int)) (some ((s.first : Int) + (s.height : Int))) = (winS s).map dT := by
    have := cut_nat ((rowsS s).map dT) s.first (s.first + s.height)
    rw [Nat.add_sub_cancel_left, ← List.map_drop, ← List.map_take] at this
    exact this
  rw [ec]
  have wl : (winS s).length ≤ 2001 := by
    unfold winS
    rw [List.length_take, List.length_drop]
    omega
  refine ⟨noneAt1 rfl, by rw [List.length_map]; omega, fun i d hd => ?_, ?_⟩
  · obtain ⟨r, hr, rfl⟩ := map_get hd
    refine gv_name (by simp) ?_
    walk_at "xe"
    refine ⟨fun _ => ?_, fun z => nomatch z⟩
    walk_at "xe"
    refine ⟨by omega, ?_⟩
    walk_at "xe"
    refine rd_ixT (d := .int r.1) rfl ⟨_, rfl, ?_⟩
    walk_at "xe"
    refine rd_ixT (d := .int r.2.1) rfl ⟨_, rfl, ?_⟩
    rw [cut_nat]
    exact ⟨_, rfl, rfl, rfl⟩
  rw [fm_map (f := dT) (g := fun r => .str (tx s.now r)) (h := sameD s.now) (fun a => rfl)]
  refine ⟨_, rfl, ?_⟩
  refine t_ret (w_op ?_)
  walk_at "xe"
  refine ⟨by show 3 ≤ 16000000; decide, ?_⟩
  refine rd_eqD 2 2 (lv_viewD wf.t) (lv_viewD wf.t) ?_
  have e4 : eqd (viewD s) (.tup [.lst ((winS s).map fun r => .str (tx s.now r)), .int (((curS s : Nat) : Int) - (s.first : Int)), .int ((colOf s.now (rowR (rowsS s) (curS s)).1 s.caret : Nat) : Int)]) = true := eqd_refl (lv_viewD wf.t)
  rw [e4]
  exact ⟨hk, rfl, rfl, trivial⟩
def f__law_moves (K : PySem.W.Frag) : FP := fun ds R _ => ds = [] ∧ R (.lst (movesL.map Da.str))
abbrev sp__law_moves (K : PySem.W.Frag) : Sp := SpOf K (PF (f__law_moves K))
def t__law_moves (K : PySem.W.Frag) (E : XK) : TS := (tSeq (tAsg (tLst (tCons (tK [108, 101, 102, 116] "left") (tCons (tK [114, 105, 103, 104, 116] "right") (tCons (tK [119, 111, 114, 100, 108, 101, 102, 116] "wordleft") (tCons (tK [119, 111, 114, 100, 114, 105, 103, 104, 116] "wordright") (tCons (tK [117, 112] "up") (tCons (tK [100, 111, 119, 110] "down") (tCons (tK [112, 97, 103, 101, 117, 112] "pageup") (tCons (tK [112, 97, 103, 101, 100, 111, 119, 110] "pagedown") (tCons (tK [104, 111, 109, 101] "home") (tCons (tK [101, 110, 100] "end") tNil))))))))))) (gName 0))
  (tRet (tOp rCat (tVar 0) (tLst (tCons (tK [116, 111, 112] "top") (tCons (tK [98, 111, 116, 116, 111, 109] "bottom") (tCons (tK [112, 97, 114, 97, 117, 112] "paraup") (tCons (tK [112, 97, 114, 97, 100, 111, 119, 110] "paradown") tNil))))))))
theorem len_f__law_moves {K : PySem.W.Frag} : ∀ ds R X, f__law_moves K ds R X → ds.length = 0 := by
  rintro ds R X ⟨rfl, _⟩
  rfl
theorem len__law_moves {K : PySem.W.Frag} : ∀ vs H Q E, sp__law_moves K vs H Q E → vs.length = 0 := fun _ _ _ _ h => spOf_len (pf_len len_f__law_moves) h
theorem pure__law_moves {K : PySem.W.Frag} {vs : List V} {H : Hp} {Q : VK} {E : XK} (h : sp__law_moves K vs H Q E) : t__law_moves K E { nx := fun _ H' => Q .non H', rt := Q } (L2.start ["some"] vs) H := by
  refine bodyP (ts := t__law_moves K) 0 1 rfl len_f__law_moves (fun ds R X ⟨e, hk⟩ => ?_) h
  subst e
  show T K _ (t__law_moves K E) [none] _ _ _
  unfold t__law_moves
  refine t_seq (t_set ?_)
  walk_at "xe"
  refine ⟨by show 10 ≤ 16000000; decide, _, rfl, ?_⟩
  refine t_ret (w_op ?_)
  walk_at "xe"
  refine ⟨by show 4 ≤ 16000000; decide, ?_⟩
  exact rd_cat (by show 10 + 4 ≤ 16000000; decide) hk
def t__law_sheet (K : PySem.W.Frag) (E : XK) : TS := (tRet (tDisp [((tK [116, 101, 120, 116] "text"), (tVar 0)), ((tK [119, 105, 100, 116, 104] "width"), (tVar 1)), ((tK [104, 101, 105, 103, 104, 116] "height"), (tVar 2)), ((tK [99, 97, 114, 101, 116] "caret"), (tC (.int 0))), ((tK [98, 97, 99, 107] "back"), (tC (.bl false))), ((tK [97, 110, 99, 104, 111, 114] "anchor"), (tC (.int 0))), ((tK [119, 105, 115, 104] "wish"), (tC .non)), ((tK [102, 105, 114, 115, 116] "first"), (tC (.int 0)))]))
theorem pure__law_sheet {K : PySem.W.Frag} {vs : List V} {H : Hp} {Q : VK} {E : XK} (h : sp__law_sheet K vs H Q E) : t__law_sheet K E { nx := fun _ H' => Q .non H', rt := Q } (L2.start ["text", "width", "height"] vs) H := by
  obtain ⟨t, w, h, rfl, k⟩ := h
  intro p hp
  refine ⟨_, rfl, _, rfl, _, rfl, upd_same, [(.inr "text", .str (S t)), (.inr "width", .int w), (.inr "height", .int h), (.inr "caret", .int 0), (.inr "back", .bl false), (.inr "anchor", .int 0), (.inr "wish", .non), (.inr "first", .int 0)], rfl, by show 8 ≤ 15; decide, ?_⟩
  rw [upd_upd]
  exact k p hp
end Cr

namespace Cr
open PySem L2
/-- what a sheet always is -/
structure Iv (s : Sh) : Prop where
  wf : Wf s
  wm : WfM s
  ff : s.first < (rowsS s).length
section
variable {K : PySem.W.Frag} {E : WX} {δ : Dl} {N : Dl → Prop} {R : PX} {X : XX} {i : Nat}
/-- a sheet is made, nothing is refused -/
theorem t_makeS0 {F : FS} {E' : XK} {ta : TA} (h : WD K E ta δ (fun ds δ1 => ∀ p, Cl F (.a p :: ds.map Vx.d) (δ1.set i (some (.o p (opart K [])))) (fun x δ' => x = .d .non ∧ N δ') X0) X) : T K E (tAsgN (tMake (He.ga K "Sheet") (SpOf K F) [] E' ta) (gName i)) δ N R X := fun w σ Hb H D sd n r e => by
  refine h w σ Hb H sd _ (fun ds δ1 vs w1 Hb1 H1 k s1 r1 f1 => ?_) (e σ)
  intro x dx hx hdx hne
  rw [List.append_nil]
  obtain ⟨s2, f2⟩ := s1.new (p := dx) (o := .own x) hdx
  have hx2 : upd H1 dx (.own x) x = none := by rw [upd_ne (fun z => hne z.symm)]; exact hx
  obtain ⟨s3, f3⟩ := s2.setOwn (i := i) (A := opart K []) (H' := upd (upd H1 dx (.own x)) x (.ins (He.ga K "Sheet") dx [])) (F := fun a => a = x) hx2 (fun a ha => by rw [ha]; exact hx2) (same_new hx2) (fun a ha => by rw [ha, upd_same]; exact fun z => nomatch z) ⟨dx, upd_same, fun a => Iff.rfl⟩
  have rv : ∀ {vs : List V} {ds : List Da} {Hn : Hp}, RpAll K Hn vs ds → Paired (Rv K Hn) vs (ds.map Vx.d) := fun {vs ds Hn} q => by
    induction ds generalizing vs with
    | nil => cases q; exact .nil
    | cons d ds ih => cases q with
      | cons a b => exact .cons a (ih b)
  refine cl_run (X := X0) s3 (.cons (show Rv K _ (.ref x) (.a x) from rfl) (rv (r1.mono f2.b))) (k x) (fun y δ' v w' Hb' H' p s' r' f' => ?_) fun _ _ _ _ _ z => z.elim
  obtain ⟨rfl, hN⟩ := p
  have r' : Rp K Hb' v .non := r'
  cases r'
  exact ⟨rfl, n _ _ _ _ _ hN s' (((f1.trans f2).trans f3).trans f')⟩
theorem t_par {i j : Nat} {ta tb : TE} (h : W K E ta δ (fun x δ1 => ∃ d, x = .d d ∧ W K E tb δ1 (fun y δ2 => ∃ e, y = .d e ∧ N ((δ2.set i (some (.d d))).set j (some (.d e)))) X) X) : T K E (tPar i j (tCons ta (tCons tb tNil))) δ N R X := fun w σ Hb H D s n r e => by
  refine h w σ Hb H s _ (fun x δ1 v w1 Hb1 H1 ⟨d, ex, k⟩ s1 r1 f1 => ?_) (e σ)
  subst ex
  refine k w1 σ Hb1 H1 s1 _ (fun y δ2 u w2 Hb2 H2 ⟨d2, ey, k2⟩ s2 r2 f2 => ?_) ((e σ).on f1)
  subst ey
  exact ⟨v, u, rfl, n _ _ _ _ _ k2 ((s2.set (i := i) (Rp.mono f2.b r1)).set (i := j) r2) (f1.trans f2)⟩
end
/-! ### what is kept -/
theorem scroll_ff {s : Sh} (h : Wt s) : (scrollS s).first < (rowsS (scrollS s)).length := by
  have hpos := List.length_pos_iff.mpr h.ch.ne
  have hlt := rowAt_lt h.ch.ne s.caret s.back
  show scrollN (rowsS s) s.caret s.back s.height s.first < (rowsS s).length
  unfold scrollN
  simp only
  have h1 := h.h1
  generalize rowAt (rowsS s) s.caret s.back = n at hlt ⊢
  by_cases a : n < min s.first ((rowsS s).length - 1)
  · rw [if_pos a]
    split <;> omega
  · rw [if_neg a]
    split <;> omega
theorem put_ff {s : Sh} (h : Wt s) (o : Nat) (b ch : Bool) : (putS s o b ch).first < (rowsS (putS s o b ch)).length := scroll_ff (s := { s with caret := o, back := b && softE (rowsS s) (rowAt (rowsS s) o true) o, anchor := if ch then s.anchor else o }) ⟨h.t, h.w1, h.w2, h.h1, h.h2⟩
theorem Iv.put {s : Sh} (h : Iv s) {o : Nat} (ho : o ≤ s.now.length) (b ch : Bool) : Iv (putS s o b ch) := ⟨h.wf.put ho b ch, ⟨h.wm.n, h.wm.l⟩, put_ff h.wf.wt o b ch⟩
theorem Iv.wish {s : Sh} (h : Iv s) (w : Option Nat) : Iv { s with wish := w } := ⟨h.wf.wish w, ⟨h.wm.n, h.wm.l⟩, h.ff⟩
theorem Iv.anchor {s : Sh} (h : Iv s) {a : Nat} (ha : a ≤ s.now.length) : Iv { s with anchor := a } := ⟨⟨h.wf.t, h.wf.w1, h.wf.w2, h.wf.h1, h.wf.h2, h.wf.c, ha⟩, ⟨h.wm.n, h.wm.l⟩, h.ff⟩
theorem Iv.move {s : Sh} (h : Iv s) (mv : List Nat) (ch : Bool) : Iv (moveS s mv ch) := by
  refine ⟨h.wf.move mv ch, h.wm.move mv ch, ?_⟩
  unfold moveS
  split
  · exact put_ff h.wf.wt _ _ _
  · unfold flatS
    have h1 := (h.wf.wish none).wt
    split
    · exact put_ff h1 _ _ _
    split
    · exact put_ff h1 _ _ _
    split <;> exact put_ff h1 _ _ _
theorem Iv.s0 {t : List Nat} (it : isText t = true) {w h : Nat} (hw : 2 ≤ w ∧ w ≤ 200) (hh : 1 ≤ h ∧ h ≤ 100) : Iv (s0 t w h) := by
  have wf : Wf (Cr.s0 t w h) := ⟨it, hw.1, hw.2, hh.1, hh.2, Nat.zero_le _, Nat.zero_le _⟩
  exact ⟨wf, ⟨.nil, Nat.zero_le _⟩, List.length_pos_iff.mpr wf.ch.ne⟩
end Cr

namespace Cr
open PySem PySem.Spec PyProof.Rows L2
theorem un1 {n : Nat} (h : n + 64 < cLine) : n + 1 < cLine := by omega
def sp_none : Sp := fun _ _ _ _ => False
/-- a method that promises nothing -/
theorem mt_none {P : Program} {w : World} {K : PySem.W.Frag} {mg : Str → Option Value} {base : Heap} {CX : CXT} {C x q : Str} {ps : List Str} {k : Nat} {sp : Sp} {pa : Arguments} {bd : List Stmt} {sc : Scope} (cl : Cls K (He.ga K C)) (me : Meth K (He.ga K C) x (He.ma K (He.ga K C) x)) (D : ∃ fd, FunD K x q pa bd sc [] [] (He.ma K (He.ga K C) x) fd)
    (hb : ∀ (kV doc pm : Value) (an : Option Addr) (cdv ct : Value) (us : List Value), us.length = ps.length → bindArgs (PySem.W.fnOf x q pa bd sc .none kV doc pm an cdv ct) ⟨us, []⟩ = pure (ps.zip us)) (no : ∀ vs H Q E, ¬ sp vs H Q E) : Mt P w K mg base CX k C x ps sp := by
  obtain ⟨fd, F⟩ := D
  exact ⟨cl, me, fd, ⟨fun vs H Q E h => absurd h (no vs H Q E), fun _ _ _ H _ _ vs Q E _ _ _ _ h => absurd h (no vs H Q E)⟩, F.bindsN hb⟩
/-! ### the module's tuples, read by the head -/
theorem tup_ok {K : PySem.W.Frag} {x : Str} {ls : List (List Nat)} (h : He.tupB K x (ls.map fun l => He.Dv.str (S l)) = true) (H : Hp) : Rp K H (.ref (He.ga K x)) (.tup (ls.map Da.str)) := by
  have := He.tupB_ok h H
  rw [List.map_map] at this
  refine .tup this ?_
  have e : (ls.map (He.Dv.v K ∘ fun l => He.Dv.str (S l))) = (ls.map S).map V.str := by
    rw [List.map_map]
    rfl
  rw [e]
  exact rpAll_strs ls
theorem sheetAll_ok {K : PySem.W.Frag} (h : sheetAll K = true) : XFs K ∧ CoF K := by
  obtain ⟨h1, h⟩ := He.ba h
  obtain ⟨h2, h3⟩ := He.ba h
  have e1 : movesS.map He.Dv.str = movesL.map fun l => He.Dv.str (S l) := by
    have : movesS = movesL.map S := by decide +kernel
    rw [this, List.map_map]
    rfl
  have e2 : vertT.map He.Dv.str = vertL.map fun l => He.Dv.str (S l) := by
    have : vertT = vertL.map S := by decide +kernel
    rw [this, List.map_map]
    rfl
  rw [e1] at h2
  rw [e2] at h3
  exact ⟨exAll_ok h1, tup_ok h2, tup_ok h3⟩
end Cr

/-! Items of owned lists written; what a window shows. -/
namespace Cr
open PySem L2
theorem RpAll.set {K : PySem.W.Frag} {H : Hp} : ∀ {vs : List V} {ds : List Da} {v : V} {d : Da} (j : Nat), RpAll K H vs ds → Rp K H v d → RpAll K H (vs.set j v) (ds.set j d)
  | _, _, _, _, _, .nil, _ => .nil
  | _, _, _, _, 0, .cons _ t, r => .cons r t
  | _, _, _, _, j + 1, .cons a t, r => .cons a (RpAll.set j t r)
section
variable {K : PySem.W.Frag} {E : WX} {δ : Dl} {N : Dl → Prop} {R : PX} {X : XX} {i : Nat}
theorem t_lset {k : Int} {te : TE} (h : W K E te δ (fun y δ1 => ∃ (d : Da) (p : Addr) (ds : List Da) (j : Nat), y = .d d ∧ δ1[i]? = some (some (.o p (olst K ds))) ∧ ixN ds.length k = some j ∧ N (δ1.set i (some (.o p (olst K (ds.set j d)))))) X) : T K E (tAsg te (gSub (tVar i) (tC (.int k)) rSetL)) δ N R X := fun w σ Hb H D sd n r e => by
  refine h w σ Hb H sd _ (fun y δ1 v w1 Hb1 H1 ⟨d, p, ds, j, ey, hi, hj, k⟩ s1 r1 f1 => ?_) (e σ)
  subst ey
  obtain ⟨u, h1, h2, xs, h3, h4, h5⟩ := s1.val i _ hi
  subst h2
  refine ⟨.ref p, h1, p, xs, _, j, rfl, rfl, h3, by rw [h4.length]; exact hj, ?_⟩
  obtain ⟨s3, f3⟩ := s1.turn0 (A' := olst K (ds.set j d)) (H' := upd H1 p (.lst (xs.set j v))) hi (fun a o ha hn => by rw [upd_ne (fun z => hn ((h5 a).mpr z))]; exact ha) (fun a ha => by
    by_cases z : a = p
    · subst z
      rw [upd_same]
      exact fun z => nomatch z
    · rw [upd_ne z]
      exact ha) ⟨_, upd_same, h4.set j r1, h5⟩
  exact n _ _ _ _ _ k s3 (f1.trans f3)
end
/-- the caret is shown -/
structure Sc (s : Sh) : Prop where
  lo : s.first ≤ curS s
  hi : curS s < s.first + s.height
theorem curS_scroll (s : Sh) : curS (scrollS s) = curS s := rfl
theorem scroll_sc {s : Sh} (h : Wt s) : Sc (scrollS s) := by
  have h1 := h.h1
  have e : (scrollS s).first = scrollN (rowsS s) s.caret s.back s.height s.first := rfl
  have e2 : curS (scrollS s) = rowAt (rowsS s) s.caret s.back := rfl
  have e3 : (scrollS s).height = s.height := rfl
  unfold scrollN at e
  simp only at e
  generalize rowAt (rowsS s) s.caret s.back = n at e e2
  by_cases a : n < min s.first ((rowsS s).length - 1)
  · rw [if_pos a] at e
    split at e
    · exact ⟨by rw [e, e2]; omega, by rw [e, e2, e3]; omega⟩
    · exact ⟨by rw [e, e2]; exact Nat.le_refl _, by rw [e, e2, e3]; omega⟩
  · rw [if_neg a] at e
    split at e
    · exact ⟨by rw [e, e2]; omega, by rw [e, e2, e3]; omega⟩
    · exact ⟨by rw [e, e2]; omega, by rw [e, e2, e3]; omega⟩
/-- where the window goes to -/
def dueN (f n h : Nat) : Nat := if n < f then n else max f (n + 1 - h)
theorem scroll_due {s : Sh} (h : 1 ≤ s.height) (ff : s.first < (rowsS s).length) : (scrollS s).first = dueN s.first (curS s) s.height := by
  have e : (scrollS s).first = scrollN (rowsS s) s.caret s.back s.height s.first := rfl
  have e2 : curS s = rowAt (rowsS s) s.caret s.back := rfl
  rw [e, e2]
  unfold scrollN dueN
  simp only
  generalize rowAt (rowsS s) s.caret s.back = n
  have em : min s.first ((rowsS s).length - 1) = s.first := by omega
  rw [em]
  by_cases a : n < s.first
  · rw [if_pos a, if_pos a]
    split <;> omega
  · rw [if_neg a, if_neg a]
    split <;> omega
theorem put_sc {s : Sh} (h : Wt s) (o : Nat) (b ch : Bool) : Sc (putS s o b ch) := scroll_sc (s := { s with caret := o, back := b && softE (rowsS s) (rowAt (rowsS s) o true) o, anchor := if ch then s.anchor else o }) ⟨h.t, h.w1, h.w2, h.h1, h.h2⟩
theorem put_due {s : Sh} (h : Wt s) (ff : s.first < (rowsS s).length) (o : Nat) (b ch : Bool) : (putS s o b ch).first = dueN s.first (curS (putS s o b ch)) s.height := scroll_due (s := { s with caret := o, back := b && softE (rowsS s) (rowAt (rowsS s) o true) o, anchor := if ch then s.anchor else o }) h.h1 ff
theorem move_sc {s : Sh} (h : Wf s) (mv : List Nat) (ch : Bool) : Sc (moveS s mv ch) := by
  have h1 := (h.wish none).wt
  unfold moveS
  split
  · have := put_sc h.wt (vertP s ‹_›).1 (vertP s ‹_›).2 ch
    exact ⟨this.lo, this.hi⟩
  · unfold flatS
    split
    · exact put_sc h1 _ _ _
    split
    · exact put_sc h1 _ _ _
    split <;> exact put_sc h1 _ _ _
theorem move_due {s : Sh} (h : Wf s) (ff : s.first < (rowsS s).length) (mv : List Nat) (ch : Bool) : (moveS s mv ch).first = dueN s.first (curS (moveS s mv ch)) s.height := by
  have h1 := (h.wish none).wt
  unfold moveS
  split
  · exact put_due h.wt ff _ _ _
  · unfold flatS
    split
    · exact put_due h1 ff _ _ _
    split
    · exact put_due h1 ff _ _ _
    split <;> exact put_due h1 ff _ _ _
/-! ### texts written -/
theorem car_ok {s : Sh} {f l : Nat} {new : List Nat} (it : isText s.now = true) (hn : ∀ c ∈ new, okSign c = true) (hl : s.now.length + new.length ≤ 2000) (hfl : f ≤ l) : isText (carS s f l new).now = true := by
  refine isText_of ?_ fun c hc => ?_
  · show (s.now.take f ++ new ++ s.now.drop l).length ≤ 2000
    rw [List.length_append, List.length_append, List.length_take, List.length_drop]
    omega
  · have hc : c ∈ s.now.take f ++ new ++ s.now.drop l := hc
    rcases List.mem_append.mp hc with hc | hc
    · rcases List.mem_append.mp hc with hc | hc
      · exact text_ok it c (List.mem_of_mem_take hc)
      · exact hn c hc
    · exact text_ok it c (List.mem_of_mem_drop hc)
theorem car_lenle (s : Sh) (f l : Nat) (new : List Nat) (hfl : f ≤ l) : (carS s f l new).now.length ≤ s.now.length + new.length := by
  show (s.now.take f ++ new ++ s.now.drop l).length ≤ _
  rw [List.length_append, List.length_append, List.length_take, List.length_drop]
  omega
theorem lo_hi (s : Sh) : loS s ≤ hiS s := by show min _ _ ≤ max _ _; omega
theorem lo_le {s : Sh} (h : Wf s) : loS s ≤ s.now.length := by
  have := h.c
  show min _ _ ≤ _
  omega
theorem Iv.write {s : Sh} (h : Iv s) {new : List Nat} (it : isText (carS s (loS s) (hiS s) new).now = true) : Iv (writeS s new) :=
  ⟨(h.wf.car it).put (car_len (lo_le h.wf)) false, ⟨(carS_wm h.wm _ _ _).n, (carS_wm h.wm _ _ _).l⟩, put_ff (h.wf.car it) _ _ _⟩
theorem write_sc {s : Sh} (h : Wf s) {new : List Nat} (it : isText (carS s (loS s) (hiS s) new).now = true) : Sc (writeS s new) := put_sc (h.car it) _ _ _
theorem pre_now (s : Sh) (mv : List Nat) : (preS s mv).now = s.now ∧ (preS s mv).width = s.width ∧ (preS s mv).height = s.height := by
  unfold preS
  split
  · exact ⟨(moveS_now s mv true).1, (moveS_now s mv true).2.1, (moveS_now s mv true).2.2.1⟩
  · exact ⟨rfl, rfl, rfl⟩
theorem Iv.erase {s : Sh} (h : Iv s) (mv : List Nat) : Iv (eraseS s mv) := by
  have wf := h.wf.pre mv
  have wm := h.wm.pre mv
  exact ⟨(wf.car (erase_text wf)).put (car_len (new := []) (lo_le wf)) false, ⟨(carS_wm wm _ _ _).n, (carS_wm wm _ _ _).l⟩, put_ff (wf.car (erase_text wf)) _ _ _⟩
theorem erase_sc {s : Sh} (h : Wf s) (mv : List Nat) : Sc (eraseS s mv) := put_sc ((h.pre mv).car (erase_text (h.pre mv))) _ _ _
theorem Iv.resize {s : Sh} (h : Iv s) {w k : Nat} (hw : 2 ≤ w ∧ w ≤ 200) (hk : 1 ≤ k ∧ k ≤ 100) : Iv (resizeS s w k) :=
  ⟨⟨h.wf.t, hw.1, hw.2, hk.1, hk.2, h.wf.c, h.wf.a⟩, ⟨h.wm.n, h.wm.l⟩, scroll_ff (s := { s with width := w, height := k, wish := none, first := rowAt (rowsW w s.now) (rowR (rowsS s) s.first).1 false, back := s.back && softE (rowsW w s.now) (rowAt (rowsW w s.now) s.caret true) s.caret }) ⟨h.wf.t, hw.1, hw.2, hk.1, hk.2⟩⟩
theorem resize_sc {s : Sh} (h : Wf s) {w k : Nat} (hw : 2 ≤ w ∧ w ≤ 200) (hk : 1 ≤ k ∧ k ≤ 100) : Sc (resizeS s w k) := scroll_sc (s := { s with width := w, height := k, wish := none, first := rowAt (rowsW w s.now) (rowR (rowsS s) s.first).1 false, back := s.back && softE (rowsW w s.now) (rowAt (rowsW w s.now) s.caret true) s.caret }) ⟨h.t, hw.1, hw.2, hk.1, hk.2⟩
end Cr

/-! xs[::-1] -/
namespace Cr
open PySem PySem.Spec PyProof.Rows L2
def tRev (K : PySem.W.Frag) (te : TE) (tk : TO) : TE := fun σ H Q => te σ H fun x H1 => tk σ H1 fun k H2 => k = some (-1) ∧ ∃ (a : Addr) (xs : List V), x = .ref a ∧ SqL K H2 a xs ∧ ∀ p, H2 p = none → Q (.ref p) (upd H2 p (.lst xs.reverse))
section
variable {X : Cx} {e st : Expr} {te : TE} {tk : TO} {p2 pos : Pos}
theorem vals_reverse : ∀ {xs : List V} {us : List Value}, Vals xs us → Vals xs.reverse us.reverse := fun {xs us} r => by
  induction r with
  | nil => exact .nil
  | cons a t ih =>
    rw [List.reverse_cons, List.reverse_cons]
    exact ih.append (.cons a .nil)
theorem pe_rev (he : PE X e te) (hk : PO X (some st) tk) : PE X (.Subscript e (.Slice none none (some st) p2) pos) (tRev X.K te tk) := by
  refine ⟨fun pins s σ H Q I h => ?_⟩
  refine Subscript_ (thn (he.run pins s σ H _ I h) fun v s1 ⟨x, H1, I1, r1, q1⟩ => ?_)
  refine wpAny_Slice ?_
  rw [evalPart_none]
  refine wpAny_pure (wpAny_pure (thn (hk.run pins s1 σ H1 _ I1 q1) fun vk s3 ⟨k, H3, I3, pk, ek, a, xs, ex, hx, q3⟩ => ?_))
  subst ek
  subst ex
  cases r1
  have I4 : Inv X pins σ H3 { s3 with heap := s3.heap.push { cls := .type "slice", data := .fields #[.none, .none, vk] } } := I3.kept (t' := s3.toks) fun b ob q => Heap.get?_push_of_some _ q
  obtain ⟨its, r, ht, hz⟩ := I4.list hx
  have hlen := r.length
  show wpAny (model X.prog X.w) X.A (subscriptTail e (.Slice none none (some st) p2) (.ref a) (.ref s3.heap.objs.size)) (EP X pins σ Q) X.xe { s3 with heap := s3.heap.push { cls := .type "slice", data := .fields #[.none, .none, vk] } }
  refine tail_any (ops := [.ref a, .ref s3.heap.objs.size]) ht.isList.typeIs slot_list_getitem.lookup ?_ (by with_unfolding_all rfl)
  refine wpAny_getItem_list_slice ht.isList (Heap.IsSliceOf.new ..) .none .none pk (by decide) ?_ (by rw [List.size_toArray] <;> omega)
  rw [PySem.W.krv_pick]
  refine ⟨.ref _, _, I4.laid (t' := s3.toks) (o := .lst xs.reverse) (fun b ob q => Heap.get?_push_of_some _ q) (Nat.le_refl _) ?_, rfl, q3 _ (I4.hok.fresh (Nat.le_refl _))⟩
  exact ⟨by rw [List.length_reverse]; exact hz, _, 0, vals_reverse r, Heap.get?_push_size _ rfl⟩
end
theorem RpAll.reverse {K : PySem.W.Frag} {H : Hp} : ∀ {vs : List V} {ds : List Da}, RpAll K H vs ds → RpAll K H vs.reverse ds.reverse
  | _, _, .nil => .nil
  | _, _, .cons r t => by
    rw [List.reverse_cons, List.reverse_cons]
    exact (RpAll.reverse t).append (.cons r .nil)
section
variable {K : PySem.W.Frag} {E : WX} {δ : Dl} {P : PX} {X : XX} {te : TE}
abbrev tMin1 : TO := tPart (tUn (rU fun i => .int (-i)) (tC (.int 1)))
theorem run_min1 {σ : L2.St} {H : Hp} {Q : Option Int → Hp → Prop} (h : Q (some (-1)) H) : tMin1 σ H Q := by
  exact ⟨1, rfl, -1, rfl, h⟩
theorem w_revL (h : W K E te δ (fun x δ1 => ∃ ds, x = .d (.lst ds) ∧ P (.d (.lst ds.reverse)) δ1) X) : W K E (tRev K te tMin1) δ P X := fun w σ Hb H s Q q e => by
  refine h w σ Hb H s _ (fun x δ1 v w1 Hb1 H1 ⟨ds, ex, k⟩ s1 r1 f1 => ?_) e
  subst ex
  have r1 : Rp K Hb1 v (.lst ds) := r1
  cases r1 with
  | @lst a xs _ hs ha =>
    refine run_min1 ⟨rfl, a, xs, rfl, SqL.of (s1.sub _ _ hs), fun p hp => ?_⟩
    obtain ⟨s2, f2⟩ := s1.new (o := .lst xs.reverse) hp
    exact q _ δ1 _ w1 _ _ k s2 (.lst upd_same (ha.reverse.mono f2.b)) (f1.trans f2)
theorem w_revO {i : Nat} {p : Addr} {ds : List Da} (hi : δ[i]? = some (some (.o p (olst K ds)))) (k : P (.d (.lst ds.reverse)) δ) : W K E (tRev K (tVar i) tMin1) δ P X := fun w σ Hb H s Q q e => by
  obtain ⟨v, h1, h2, xs, h3, h4, h5⟩ := s.val i _ hi
  subst h2
  refine ⟨.ref p, h1, run_min1 ⟨rfl, p, xs, rfl, .inl (.inl h3), fun l hl => ?_⟩⟩
  obtain ⟨s2, f2⟩ := s.new (o := .lst xs.reverse) hl
  exact q _ δ _ w _ _ k s2 (.lst upd_same (h4.reverse.mono f2.b)) f2
/-- a tuple's part, not the whole -/
theorem w_slT {tl th : TO} (h : W K E te δ (fun x δ1 => ∃ ds, x = .d (.tup ds) ∧ WO K E tl δ1 (fun lo δ2 => WO K E th δ2 (fun hi δ3 => ¬ (HT.sIx ds.length 0 lo = 0 ∧ HT.sIx ds.length ds.length hi = ds.length) ∧ P (.d (.tup (cut ds lo hi))) δ3) X) X) X) : W K E (tSl (rSlT K) te tl th) δ P X := fun w σ Hb H s Q q e => by
  refine h w σ Hb H s _ (fun x δ1 v w1 Hb1 H1 ⟨ds, el, k⟩ s1 r1 f1 => ?_) e
  subst el
  have r1 : Rp K Hb1 v (.tup ds) := r1
  cases r1 with
  | @tup a xs _ hs ha =>
    refine k w1 σ Hb1 H1 s1 _ (fun lo δ2 w2 Hb2 H2 k2 s2 f2 => ?_) (e.on f1)
    refine k2 w2 σ Hb2 H2 s2 _ (fun hi δ3 w3 Hb3 H3 ⟨k3, k4⟩ s3 f3 => ?_) (e.on (f1.trans f2))
    refine ⟨a, xs, rfl, same_t ((f2.trans f3).b.trans s3.sub) hs, by rw [ha.length]; exact k3, fun p hp => ?_⟩
    obtain ⟨s4, f4⟩ := s3.new (o := .tup (cutV xs lo hi)) hp
    exact q _ δ3 _ w3 _ _ k4 s4 (.tup (.inl (.inl upd_same)) ((ha.cut lo hi).mono ((f2.trans f3).trans f4).b)) (((f1.trans f2).trans f3).trans f4)
end
end Cr

namespace Cr
open PySem L2
local macro_rules | `(tactic| walk_at "x") => `(tactic| first | with_reducible refine t_seq ?_ | with_reducible refine t_ret ?_ | with_reducible refine t_set ?_ | with_reducible refine t_drop ?_ | with_reducible refine t_if ?_ | with_reducible refine t_next ?_ | with_reducible refine t_raise ?_ | with_reducible refine t_asg ?_ | with_reducible refine t_retN ?_ | with_reducible refine w_op ?_ | ((with_reducible refine' w_var ?h ?_); (case h => rfl)) | ((with_reducible refine' w_own ?h ?_); (case h => rfl)) | with_reducible refine w_int ?_ | ((with_reducible refine' w_k ?h ?_); (case h => decide +kernel)) | with_reducible refine w_bl ?_ | with_reducible refine w_non ?_ | with_reducible refine w_if ?_ | with_reducible refine w_andV ?_ | with_reducible refine w_orV ?_ | with_reducible refine w_notV ?_ | with_reducible refine w_tup ?_ | with_reducible refine w_lst ?_ | with_reducible refine w_cb ?_ | with_reducible refine w_chain ?_ | with_reducible refine w_slS ?_ | with_reducible refine w_slL ?_ | with_reducible refine w_find1 ?_ | with_reducible refine w_find2 ?_ | with_reducible refine w_rfind1 ?_ | with_reducible refine w_rfind3 ?_ | with_reducible refine w_neg ?_ | with_reducible refine w_ref ?_ | with_reducible refine w_ty ?_ | with_reducible refine wt_test ?_ | with_reducible refine wt_B ?_ | with_reducible refine wt_and ?_ | with_reducible refine wt_or ?_ | with_reducible refine wt_not ?_ | with_reducible refine wt_yes ?_ | with_reducible refine wd_nil ?_ | with_reducible refine wd_cons ?_ | with_reducible refine wa_nil ?_ | with_reducible refine wa_cons ?_ | with_reducible refine wo_none ?_ | with_reducible refine wo_some ?_ | with_reducible refine rd_I0i ?_ | with_reducible refine rd_I0b ?_ | with_reducible refine rd_eqI ?_ | with_reducible refine rd_neI ?_ | with_reducible refine rd_eqS ?_ | with_reducible refine rd_neS ?_ | with_reducible refine rd_isN ?_ | with_reducible refine rd_notN ?_ | with_reducible refine rd_inSign ?_ | with_reducible refine cd_lenL ?_ | ((with_reducible refine' cd_lenS ?h ?_); (case h => first | assumption | omega)) | with_reducible refine cd_lenT ?_ | with_reducible refine cd_lenR ?_ | with_reducible refine cd_abs ?_ | with_reducible refine cd_max2 ?_ | with_reducible refine cd_min2 ?_ | with_reducible refine cd_intB ?_ | with_reducible refine cd_ord ?_ | with_reducible refine g_name ?_ | with_reducible refine ⟨_, rfl, ?_⟩ | with_reducible refine rd_leS ?_ | ((with_reducible refine' w_now ?C ?h ?_); (case C => assumption); (case h => rfl)) | ((with_reducible refine' w_width ?C ?h ?_); (case C => assumption); (case h => rfl)) | ((with_reducible refine' w_height ?C ?h ?_); (case C => assumption); (case h => rfl)) | ((with_reducible refine' w_caret ?C ?h ?_); (case C => assumption); (case h => rfl)) | ((with_reducible refine' w_is_back ?C ?h ?_); (case C => assumption); (case h => rfl)) | ((with_reducible refine' w_anchor ?C ?h ?_); (case C => assumption); (case h => rfl)) | ((with_reducible refine' w_wish ?C ?h ?_); (case C => assumption); (case h => rfl)) | ((with_reducible refine' w_first ?C ?h ?_); (case C => assumption); (case h => rfl)) | ((with_reducible refine' w_mText ?h ?R ?C ?wf ?e ?_); (case h => rfl); (case R => assumption); (case C => assumption); (case wf => assumption); (case e => rfl)) | ((with_reducible refine' w_mRows ?h ?R ?C ?wf ?e ?_); (case h => rfl); (case R => assumption); (case C => assumption); (case wf => assumption); (case e => rfl)) | ((with_reducible refine' w_mAt ?h ?R ?C ?wf ?e ?_); (case h => rfl); (case R => assumption); (case C => assumption); (case wf => assumption); (case e => rfl)) | ((with_reducible refine' w_mChosen ?h ?R ?C ?wf ?e ?_); (case h => rfl); (case R => assumption); (case C => assumption); (case wf => assumption); (case e => rfl)) | ((with_reducible refine' w_mChosenT ?h ?R ?C ?wf ?e ?_); (case h => rfl); (case R => assumption); (case C => assumption); (case wf => assumption); (case e => rfl)) | ((with_reducible refine' w_mView ?h ?R ?C ?wf ?e ?_); (case h => rfl); (case R => assumption); (case C => assumption); (case wf => assumption); (case e => rfl)) | ((with_reducible refine' w_m_text ?h ?_); (case h => rfl)) | ((with_reducible refine' w_m_width ?h ?_); (case h => rfl)) | ((with_reducible refine' w_m_height ?h ?_); (case h => rfl)) | ((with_reducible refine' w_m_caret ?h ?_); (case h => rfl)) | ((with_reducible refine' w_m_back ?h ?_); (case h => rfl)) | ((with_reducible refine' w_m_anchor ?h ?_); (case h => rfl)) | ((with_reducible refine' w_m_wish ?h ?_); (case h => rfl)) | ((with_reducible refine' w_m_first ?h ?_); (case h => rfl)))
local macro_rules | `(tactic| walk_at "xe") => `(tactic| repeat (first | with_reducible refine w_op ?_ | ((with_reducible refine' w_var ?h ?_); (case h => rfl)) | ((with_reducible refine' w_own ?h ?_); (case h => rfl)) | with_reducible refine w_int ?_ | ((with_reducible refine' w_k ?h ?_); (case h => decide +kernel)) | with_reducible refine w_bl ?_ | with_reducible refine w_non ?_ | with_reducible refine w_if ?_ | with_reducible refine w_andV ?_ | with_reducible refine w_orV ?_ | with_reducible refine w_notV ?_ | with_reducible refine w_tup ?_ | with_reducible refine w_lst ?_ | with_reducible refine w_cb ?_ | with_reducible refine w_chain ?_ | with_reducible refine w_slS ?_ | with_reducible refine w_slL ?_ | with_reducible refine w_find1 ?_ | with_reducible refine w_find2 ?_ | with_reducible refine w_rfind1 ?_ | with_reducible refine w_rfind3 ?_ | with_reducible refine w_neg ?_ | with_reducible refine w_ref ?_ | with_reducible refine w_ty ?_ | with_reducible refine wt_test ?_ | with_reducible refine wt_B ?_ | with_reducible refine wt_and ?_ | with_reducible refine wt_or ?_ | with_reducible refine wt_not ?_ | with_reducible refine wt_yes ?_ | with_reducible refine wd_nil ?_ | with_reducible refine wd_cons ?_ | with_reducible refine wa_nil ?_ | with_reducible refine wa_cons ?_ | with_reducible refine wo_none ?_ | with_reducible refine wo_some ?_ | with_reducible refine rd_I0i ?_ | with_reducible refine rd_I0b ?_ | with_reducible refine rd_eqI ?_ | with_reducible refine rd_neI ?_ | with_reducible refine rd_eqS ?_ | with_reducible refine rd_neS ?_ | with_reducible refine rd_isN ?_ | with_reducible refine rd_notN ?_ | with_reducible refine rd_inSign ?_ | with_reducible refine cd_lenL ?_ | ((with_reducible refine' cd_lenS ?h ?_); (case h => first | assumption | omega)) | with_reducible refine cd_lenT ?_ | with_reducible refine cd_lenR ?_ | with_reducible refine cd_abs ?_ | with_reducible refine cd_max2 ?_ | with_reducible refine cd_min2 ?_ | with_reducible refine cd_intB ?_ | with_reducible refine cd_ord ?_ | with_reducible refine g_name ?_ | with_reducible refine ⟨_, rfl, ?_⟩ | with_reducible refine rd_leS ?_ | ((with_reducible refine' w_now ?C ?h ?_); (case C => assumption); (case h => rfl)) | ((with_reducible refine' w_width ?C ?h ?_); (case C => assumption); (case h => rfl)) | ((with_reducible refine' w_height ?C ?h ?_); (case C => assumption); (case h => rfl)) | ((with_reducible refine' w_caret ?C ?h ?_); (case C => assumption); (case h => rfl)) | ((with_reducible refine' w_is_back ?C ?h ?_); (case C => assumption); (case h => rfl)) | ((with_reducible refine' w_anchor ?C ?h ?_); (case C => assumption); (case h => rfl)) | ((with_reducible refine' w_wish ?C ?h ?_); (case C => assumption); (case h => rfl)) | ((with_reducible refine' w_first ?C ?h ?_); (case C => assumption); (case h => rfl)) | ((with_reducible refine' w_mText ?h ?R ?C ?wf ?e ?_); (case h => rfl); (case R => assumption); (case C => assumption); (case wf => assumption); (case e => rfl)) | ((with_reducible refine' w_mRows ?h ?R ?C ?wf ?e ?_); (case h => rfl); (case R => assumption); (case C => assumption); (case wf => assumption); (case e => rfl)) | ((with_reducible refine' w_mAt ?h ?R ?C ?wf ?e ?_); (case h => rfl); (case R => assumption); (case C => assumption); (case wf => assumption); (case e => rfl)) | ((with_reducible refine' w_mChosen ?h ?R ?C ?wf ?e ?_); (case h => rfl); (case R => assumption); (case C => assumption); (case wf => assumption); (case e => rfl)) | ((with_reducible refine' w_mChosenT ?h ?R ?C ?wf ?e ?_); (case h => rfl); (case R => assumption); (case C => assumption); (case wf => assumption); (case e => rfl)) | ((with_reducible refine' w_mView ?h ?R ?C ?wf ?e ?_); (case h => rfl); (case R => assumption); (case C => assumption); (case wf => assumption); (case e => rfl)) | ((with_reducible refine' w_m_text ?h ?_); (case h => rfl)) | ((with_reducible refine' w_m_width ?h ?_); (case h => rfl)) | ((with_reducible refine' w_m_height ?h ?_); (case h => rfl)) | ((with_reducible refine' w_m_caret ?h ?_); (case h => rfl)) | ((with_reducible refine' w_m_back ?h ?_); (case h => rfl)) | ((with_reducible refine' w_m_anchor ?h ?_); (case h => rfl)) | ((with_reducible refine' w_m_wish ?h ?_); (case h => rfl)) | ((with_reducible refine' w_m_first ?h ?_); (case h => rfl)) | simp only [List.set_cons_succ, List.set_cons_zero]))
local macro_rules | `(tactic| walk_at "xs") => `(tactic| repeat (first | with_reducible refine t_seq ?_ | with_reducible refine t_ret ?_ | with_reducible refine t_set ?_ | with_reducible refine t_drop ?_ | with_reducible refine t_if ?_ | with_reducible refine t_next ?_ | with_reducible refine t_raise ?_ | with_reducible refine t_asg ?_ | with_reducible refine t_retN ?_ | with_reducible refine w_op ?_ | ((with_reducible refine' w_var ?h ?_); (case h => rfl)) | ((with_reducible refine' w_own ?h ?_); (case h => rfl)) | with_reducible refine w_int ?_ | ((with_reducible refine' w_k ?h ?_); (case h => decide +kernel)) | with_reducible refine w_bl ?_ | with_reducible refine w_non ?_ | with_reducible refine w_if ?_ | with_reducible refine w_andV ?_ | with_reducible refine w_orV ?_ | with_reducible refine w_notV ?_ | with_reducible refine w_tup ?_ | with_reducible refine w_lst ?_ | with_reducible refine w_cb ?_ | with_reducible refine w_chain ?_ | with_reducible refine w_slS ?_ | with_reducible refine w_slL ?_ | with_reducible refine w_find1 ?_ | with_reducible refine w_find2 ?_ | with_reducible refine w_rfind1 ?_ | with_reducible refine w_rfind3 ?_ | with_reducible refine w_neg ?_ | with_reducible refine w_ref ?_ | with_reducible refine w_ty ?_ | with_reducible refine wt_test ?_ | with_reducible refine wt_B ?_ | with_reducible refine wt_and ?_ | with_reducible refine wt_or ?_ | with_reducible refine wt_not ?_ | with_reducible refine wt_yes ?_ | with_reducible refine wd_nil ?_ | with_reducible refine wd_cons ?_ | with_reducible refine wa_nil ?_ | with_reducible refine wa_cons ?_ | with_reducible refine wo_none ?_ | with_reducible refine wo_some ?_ | with_reducible refine rd_I0i ?_ | with_reducible refine rd_I0b ?_ | with_reducible refine rd_eqI ?_ | with_reducible refine rd_neI ?_ | with_reducible refine rd_eqS ?_ | with_reducible refine rd_neS ?_ | with_reducible refine rd_isN ?_ | with_reducible refine rd_notN ?_ | with_reducible refine rd_inSign ?_ | with_reducible refine cd_lenL ?_ | ((with_reducible refine' cd_lenS ?h ?_); (case h => first | assumption | omega)) | with_reducible refine cd_lenT ?_ | with_reducible refine cd_lenR ?_ | with_reducible refine cd_abs ?_ | with_reducible refine cd_max2 ?_ | with_reducible refine cd_min2 ?_ | with_reducible refine cd_intB ?_ | with_reducible refine cd_ord ?_ | with_reducible refine g_name ?_ | with_reducible refine ⟨_, rfl, ?_⟩ | with_reducible refine rd_leS ?_ | ((with_reducible refine' w_now ?C ?h ?_); (case C => assumption); (case h => rfl)) | ((with_reducible refine' w_width ?C ?h ?_); (case C => assumption); (case h => rfl)) | ((with_reducible refine' w_height ?C ?h ?_); (case C => assumption); (case h => rfl)) | ((with_reducible refine' w_caret ?C ?h ?_); (case C => assumption); (case h => rfl)) | ((with_reducible refine' w_is_back ?C ?h ?_); (case C => assumption); (case h => rfl)) | ((with_reducible refine' w_anchor ?C ?h ?_); (case C => assumption); (case h => rfl)) | ((with_reducible refine' w_wish ?C ?h ?_); (case C => assumption); (case h => rfl)) | ((with_reducible refine' w_first ?C ?h ?_); (case C => assumption); (case h => rfl)) | ((with_reducible refine' w_mText ?h ?R ?C ?wf ?e ?_); (case h => rfl); (case R => assumption); (case C => assumption); (case wf => assumption); (case e => rfl)) | ((with_reducible refine' w_mRows ?h ?R ?C ?wf ?e ?_); (case h => rfl); (case R => assumption); (case C => assumption); (case wf => assumption); (case e => rfl)) | ((with_reducible refine' w_mAt ?h ?R ?C ?wf ?e ?_); (case h => rfl); (case R => assumption); (case C => assumption); (case wf => assumption); (case e => rfl)) | ((with_reducible refine' w_mChosen ?h ?R ?C ?wf ?e ?_); (case h => rfl); (case R => assumption); (case C => assumption); (case wf => assumption); (case e => rfl)) | ((with_reducible refine' w_mChosenT ?h ?R ?C ?wf ?e ?_); (case h => rfl); (case R => assumption); (case C => assumption); (case wf => assumption); (case e => rfl)) | ((with_reducible refine' w_mView ?h ?R ?C ?wf ?e ?_); (case h => rfl); (case R => assumption); (case C => assumption); (case wf => assumption); (case e => rfl)) | ((with_reducible refine' w_m_text ?h ?_); (case h => rfl)) | ((with_reducible refine' w_m_width ?h ?_); (case h => rfl)) | ((with_reducible refine' w_m_height ?h ?_); (case h => rfl)) | ((with_reducible refine' w_m_caret ?h ?_); (case h => rfl)) | ((with_reducible refine' w_m_back ?h ?_); (case h => rfl)) | ((with_reducible refine' w_m_anchor ?h ?_); (case h => rfl)) | ((with_reducible refine' w_m_wish ?h ?_); (case h => rfl)) | ((with_reducible refine' w_m_first ?h ?_); (case h => rfl)) | simp only [List.set_cons_succ, List.set_cons_zero]))
/-! ### words -/
def lN (t : List Nat) (j : Nat) : Bool := match t[j]? with
  | some c => isLet c
  | none => false
theorem letN (t : List Nat) (j : Nat) : letAt t (j : Int) = lN t j := letAt_nat t j
theorem letN1 (t : List Nat) {j : Nat} (h : 0 < j) : letAt t ((j : Int) - 1) = lN t (j - 1) := by rw [pred_cast h, letN]
theorem letN0 (t : List Nat) : letAt t (((0 : Nat) : Int) - 1) = false := by unfold letAt; rw [decide_eq_false (by decide), Bool.false_and]
theorem lN_app (a b : List Nat) (j : Nat) : lN (a ++ b) j = if j < a.length then lN a j else lN b (j - a.length) := by
  by_cases h : j < a.length
  · rw [if_pos h]
    unfold lN
    rw [List.getElem?_append_left h]
  · rw [if_neg h]
    unfold lN
    rw [List.getElem?_append_right (by omega)]
theorem lN_out {t : List Nat} {j : Nat} (h : t.length ≤ j) : lN t j = false := by
  unfold lN
  rw [List.getElem?_eq_none h]
theorem lN_take (t : List Nat) (e j : Nat) : lN (t.take e) j = if j < e then lN t j else false := by
  by_cases h : j < e
  · rw [if_pos h]
    unfold lN
    rw [List.getElem?_take, if_pos h]
  · rw [if_neg h]
    unfold lN
    rw [List.getElem?_take, if_neg h]
/-- the words of a text -/
structure Wds (t : List Nat) (ws : List (Nat × Nat)) : Prop where
  w : ∀ (i s e : Nat), ws[i]? = some (s, e) → s < e ∧ e ≤ t.length ∧ (∀ j, s ≤ j → j < e → lN t j = true) ∧ lN t e = false ∧ (s = 0 ∨ lN t (s - 1) = false)
  n : ∀ (i s e s' e' : Nat), ws[i]? = some (s, e) → ws[i + 1]? = some (s', e') → e ≤ s' ∧ ∀ j, e ≤ j → j < s' → lN t j = false
  f : ∀ (s e : Nat), ws[0]? = some (s, e) → ∀ j, j < s → lN t j = false
  l : ∀ (s e : Nat), ws.getLast? = some (s, e) → ∀ j, e ≤ j → lN t j = false
  z : ws = [] → ∀ j, lN t j = false
theorem wds_add {t : List Nat} {ws : List (Nat × Nat)} (h : Wds t ws) (hend : t = [] ∨ lN t (t.length - 1) = false) {wo gp : List Nat} (hw : wo ≠ []) (hg : gp ≠ []) (lw : ∀ c ∈ wo, isLet c = true) (lg : ∀ c ∈ gp, isLet c = false) :
    Wds (t ++ wo ++ gp) (ws ++ [(t.length, t.length + wo.length)]) ∧ ((t ++ wo ++ gp) = [] ∨ lN (t ++ wo ++ gp) ((t ++ wo ++ gp).length - 1) = false) := by
  have wl : 0 < wo.length := List.length_pos_iff.mpr hw
  have gl : 0 < gp.length := List.length_pos_iff.mpr hg
  have e1 : ∀ j, j < t.length → lN (t ++ wo ++ gp) j = lN t j := fun j hj => by
    rw [List.append_assoc, lN_app, if_pos hj]
  have e2 : ∀ j, t.length ≤ j → j < t.length + wo.length → lN (t ++ wo ++ gp) j = true := fun j h1 h2 => by
    rw [List.append_assoc, lN_app, if_neg (by omega), lN_app, if_pos (by omega)]
    unfold lN
    rw [List.getElem?_eq_getElem (by omega)]
    exact lw _ (List.getElem_mem _)
  have e3 : ∀ j, t.length + wo.length ≤ j → lN (t ++ wo ++ gp) j = false := fun j h1 => by
    rw [List.append_assoc, lN_app, if_neg (by omega), lN_app, if_neg (by omega)]
    unfold lN
    cases hx : gp[j - t.length - wo.length]? with
    | none => rfl
    | some c => exact lg c (List.mem_of_getElem? hx)
  have old : ∀ (i s e : Nat), ws[i]? = some (s, e) → s < e ∧ e ≤ t.length := fun i s e hi => ⟨(h.w i s e hi).1, (h.w i s e hi).2.1⟩
  refine ⟨⟨fun i s e hi => ?_, fun i s e s' e' h1 h2 => ?_, fun s e h0 j hj => ?_, fun s e hl j hj => ?_, fun z => by simp at z⟩, .inr ?_⟩
  · rcases Nat.lt_or_ge i ws.length with q | q
    · rw [List.getElem?_append_left q] at hi
      obtain ⟨a1, a2, a3, a4, a5⟩ := h.w i s e hi
      refine ⟨a1, by rw [List.length_append, List.length_append]; omega, fun j j1 j2 => by rw [e1 j (by omega)]; exact a3 j j1 j2, ?_, ?_⟩
      · rcases Nat.lt_or_ge e t.length with z | z
        · rw [e1 e z]; exact a4
        · have ez : e = t.length := by omega
          rcases hend with he | he
          · rw [he] at ez
            simp at ez
            omega
          · rw [ez] at a3
            rw [a3 (t.length - 1) (by omega) (by omega)] at he
            exact nomatch he
      · rcases a5 with z | z
        · exact .inl z
        · right
          rw [e1 _ (by omega)]
          exact z
    · rw [List.getElem?_append_right q] at hi
      have hi0 : i - ws.length = 0 := by
        have := (List.getElem?_eq_some_iff.mp hi).1
        simpa using this
      rw [hi0] at hi
      simp at hi
      obtain ⟨rfl, rfl⟩ := hi
      refine ⟨by omega, by rw [List.length_append, List.length_append]; omega, fun j j1 j2 => e2 j j1 j2, e3 _ (Nat.le_refl _), ?_⟩
      rcases hend with he | he
      · left
        rw [he]
        rfl
      · rcases Nat.eq_zero_or_pos t.length with z | z
        · exact .inl z
        · right
          rw [e1 _ (by omega)]
          exact he
  · have hi1 : i + 1 < (ws ++ [(t.length, t.length + wo.length)]).length := (List.getElem?_eq_some_iff.mp h2).1
    rw [List.length_append, List.length_singleton] at hi1
    rw [List.getElem?_append_left (by omega)] at h1
    rcases Nat.lt_or_ge (i + 1) ws.length with q | q
    · rw [List.getElem?_append_left q] at h2
      obtain ⟨a1, a2⟩ := h.n i s e s' e' h1 h2
      have := old _ _ _ h2
      exact ⟨a1, fun j j1 j2 => by rw [e1 j (by omega)]; exact a2 j j1 j2⟩
    · rw [List.getElem?_append_right q] at h2
      have hi0 : i + 1 - ws.length = 0 := by omega
      rw [hi0] at h2
      simp at h2
      obtain ⟨rfl, rfl⟩ := h2
      have hlast : ws.getLast? = some (s, e) := by
        rw [List.getLast?_eq_getElem?]
        have : ws.length - 1 = i := by omega
        rw [this]
        exact h1
      exact ⟨(old _ _ _ h1).2, fun j j1 j2 => by rw [e1 j j2]; exact h.l s e hlast j j1⟩
  · rcases Nat.eq_zero_or_pos ws.length with z | z
    · have hz : ws = [] := List.length_eq_zero_iff.mp z
      subst hz
      simp at h0
      obtain ⟨rfl, rfl⟩ := h0
      rw [e1 j hj]
      exact h.z rfl j
    · rw [List.getElem?_append_left z] at h0
      have := old _ _ _ h0
      rw [e1 j (by omega)]
      exact h.f s e h0 j hj
  · simp at hl
    obtain ⟨rfl, rfl⟩ := hl
    exact e3 j hj
  · have : (t ++ wo ++ gp).length = t.length + wo.length + gp.length := by simp; omega
    rw [this]
    exact e3 _ (by omega)
theorem wds_cut {t : List Nat} {ws : List (Nat × Nat)} (h : Wds t ws) {s e : Nat} (hl : ws.getLast? = some (s, e)) : Wds (t.take e) ws := by
  have hlast : ∀ (i a b : Nat), ws[i]? = some (a, b) → b ≤ e := fun i a b hi => by
    have key : ∀ (n i a b : Nat), ws.length - 1 - i = n → ws[i]? = some (a, b) → b ≤ e := fun n => by
      induction n with
      | zero =>
        intro i a b hn hi
        have hil := (List.getElem?_eq_some_iff.mp hi).1
        rw [List.getLast?_eq_getElem?] at hl
        have : ws.length - 1 = i := by omega
        rw [this, hi] at hl
        cases hl
        exact Nat.le_refl _
      | succ n ih =>
        intro i a b hn hi
        obtain ⟨⟨a', b'⟩, hq⟩ : ∃ q, ws[i + 1]? = some q := ⟨_, List.getElem?_eq_getElem (by omega)⟩
        have h1 := h.n i a b a' b' hi hq
        have h2 := h.w (i + 1) a' b' hq
        have h3 := ih (i + 1) a' b' (by omega) hq
        omega
    exact key _ i a b rfl hi
  have hee : e ≤ t.length := by
    rw [List.getLast?_eq_getElem?] at hl
    exact (h.w _ s e hl).2.1
  refine ⟨fun i a b hi => ?_, fun i a b a' b' h1 h2 => ?_, fun a b h0 j hj => ?_, fun a b h0 j hj => ?_, fun z j => ?_⟩
  · obtain ⟨a1, a2, a3, a4, a5⟩ := h.w i a b hi
    have hb := hlast i a b hi
    refine ⟨a1, by rw [List.length_take]; omega, fun j j1 j2 => by rw [lN_take, if_pos (by omega)]; exact a3 j j1 j2, ?_, ?_⟩
    · rw [lN_take]
      split
      · exact a4
      · rfl
    · rcases a5 with z | z
      · exact .inl z
      · right
        rw [lN_take]
        split
        · exact z
        · rfl
  · obtain ⟨a1, a2⟩ := h.n i a b a' b' h1 h2
    refine ⟨a1, fun j j1 j2 => ?_⟩
    rw [lN_take]
    split
    · exact a2 j j1 j2
    · rfl
  · rw [lN_take]
    split
    · exact h.f a b h0 j hj
    · rfl
  · rw [lN_take]
    split
    · exact h.l a b h0 j hj
    · rfl
  · rw [lN_take]
    split
    · exact h.z z j
    · rfl
/-! goals of moves by words -/
theorem fg_wr {t : List Nat} {c e : Nat} (h : WR t c e) : FG t c mWR e := by
  unfold FG
  rw [if_neg (by decide), if_neg (by decide), if_neg (by decide), if_pos rfl]
  exact h
theorem fg_wl {t : List Nat} {c e : Nat} (h : WL t c e) : FG t c mWL e := by
  unfold FG
  rw [if_neg (by decide), if_neg (by decide), if_pos rfl]
  exact h
theorem move_wr {s : Sh} (wf : Wf s) (ch : Bool) {e : Nat} (h : WR s.now s.caret e) : (moveS s mWR ch).caret = e ∧ (moveS s mWR ch).anchor = if ch then s.anchor else e := by
  have e1 : flatF s.now s.caret mWR = e := flatF_eq wf.c (fg_wr h)
  have e2 : moveS s mWR ch = putS { s with wish := none } (flatF s.now s.caret mWR) false ch := by
    unfold moveS
    have : vertM s.height mWR = none := vertM_none.mpr (by decide)
    rw [this]
    unfold flatS
    show (if mWR = mHome then _ else _) = _
    rw [if_neg (by decide), if_neg (by decide), if_neg (fun z => by rcases z.1 with q | q <;> exact absurd q (by decide))]
  rw [e2, e1]
  exact ⟨rfl, rfl⟩
theorem move_wl {s : Sh} (wf : Wf s) (ch : Bool) {e : Nat} (h : WL s.now s.caret e) : (moveS s mWL ch).caret = e ∧ (moveS s mWL ch).anchor = if ch then s.anchor else e := by
  have e1 : flatF s.now s.caret mWL = e := flatF_eq wf.c (fg_wl h)
  have e2 : moveS s mWL ch = putS { s with wish := none } (flatF s.now s.caret mWL) false ch := by
    unfold moveS
    have : vertM s.height mWL = none := vertM_none.mpr (by decide)
    rw [this]
    unfold flatS
    show (if mWL = mHome then _ else _) = _
    rw [if_neg (by decide), if_neg (by decide), if_neg (fun z => by rcases z.1 with q | q <;> exact absurd q (by decide))]
  rw [e2, e1]
  exact ⟨rfl, rfl⟩
theorem wr_of {t : List Nat} {o b e : Nat} (h1 : o ≤ b) (h2 : b ≤ e) (h3 : e ≤ t.length) (h4 : ∀ j, o ≤ j → j < b → lN t j = false) (h5 : ∀ j, b ≤ j → j < e → lN t j = true) (h6 : b = t.length ∨ lN t b = true) (h7 : lN t e = false) : WR t o e :=
  ⟨b, h1, h2, h3, fun j a c => by rw [letN]; exact h4 j a c, fun j a c => by rw [letN]; exact h5 j a c, h6.imp id (fun z => by rw [letN]; exact z), by rw [letN]; exact h7⟩
theorem wl_of {t : List Nat} {o b e : Nat} (h1 : e ≤ b) (h2 : b ≤ o) (h4 : ∀ j, b ≤ j → j < o → lN t j = false) (h5 : ∀ j, e ≤ j → j < b → lN t j = true) (h6 : b = 0 ∨ (0 < b ∧ lN t (b - 1) = true)) (h7 : e = 0 ∨ lN t (e - 1) = false) : WL t o e := by
  refine ⟨b, h1, h2, fun j a c => by rw [letN]; exact h4 j a c, fun j a c => by rw [letN]; exact h5 j a c, h6.imp id (fun ⟨z1, z2⟩ => by rw [letN1 t z1]; exact z2), ?_⟩
  rcases Nat.eq_zero_or_pos e with z | z
  · rw [z]
    exact letN0 t
  · rcases h7 with q | q
    · omega
    · rw [letN1 t z]
      exact q
def dWd (q : Nat × Nat) : Da := .tup [.int q.1, .int q.2]
theorem lv_words (ws : List (Nat × Nat)) : lv 2 (.lst (ws.map dWd)) := lv_lst fun d hd => by
  obtain ⟨q, _, rfl⟩ := List.mem_map.mp hd
  exact lv_itup fun d hd => by
    simp only [List.mem_cons, List.not_mem_nil, or_false] at hd
    rcases hd with rfl | rfl <;> exact ⟨_, rfl⟩
theorem pre_ok {d : Da} (h : d ∈ [Da.str [], .str [32], .str [10], .str [45, 45]]) : ∃ l : List Nat, d = .str l ∧ l.length ≤ 2 ∧ (∀ c ∈ l, okSign c = true) ∧ ∀ c ∈ l, isLet c = false := by
  simp only [List.mem_cons, List.not_mem_nil, or_false] at h
  rcases h with rfl | rfl | rfl | rfl <;> exact ⟨_, rfl, by decide, by decide, by decide⟩
theorem word_ok {d : Da} (h : d ∈ [Da.str [97], .str [119, 111, 114, 100], .str [87, 57], .str [48, 48, 48], .str [65, 98, 99]]) : ∃ l : List Nat, d = .str l ∧ l ≠ [] ∧ l.length ≤ 4 ∧ (∀ c ∈ l, okSign c = true) ∧ ∀ c ∈ l, isLet c = true := by
  simp only [List.mem_cons, List.not_mem_nil, or_false] at h
  rcases h with rfl | rfl | rfl | rfl | rfl <;> exact ⟨_, rfl, by decide, by decide, by decide, by decide⟩
def gapsD : List Da := [.str [32], .str [32, 32], .str [44, 32], .str [10], .str [45], .str [32, 46, 46, 46, 32], .str [10, 10, 32]]
theorem gap_ok {d : Da} (h : d ∈ gapsD) : ∃ l : List Nat, d = .str l ∧ l ≠ [] ∧ l.length ≤ 5 ∧ (∀ c ∈ l, okSign c = true) ∧ ∀ c ∈ l, isLet c = false := by
  simp only [gapsD, List.mem_cons, List.not_mem_nil, or_false] at h
  rcases h with rfl | rfl | rfl | rfl | rfl | rfl | rfl <;> exact ⟨_, rfl, by decide, by decide, by decide, by decide⟩
def f_law (K : PySem.W.Frag) : FP := fun ds R _ => ∃ ns : List Int, ds = [.scr ns] ∧ XFs K ∧ RwF K ∧ ShC K ∧ CoF K ∧ R (.bl true)
abbrev sp_law (K : PySem.W.Frag) : Sp := SpOf K (PF (f_law K))
def t_law (K : PySem.W.Frag) (E : XK) : TS := (tSeq (tAsgN (tLst tNil) (gName 1))
  (tSeq (tAsg (tLst (tCons (tK [32] " ") (tCons (tK [32, 32] "  ") (tCons (tK [44, 32] ", ") (tCons (tK [10] "\n") (tCons (tK [45] "-") (tCons (tK [32, 46, 46, 46, 32] " ... ") (tCons (tK [10, 10, 32] "\n\n ") tNil)))))))) (gName 2))
  (tSeq (tAsg (tCall (sp__law_pick K) [] L2.E0 (tCons (tVar 0) (tCons (tVar 1) (tCons (tLst (tCons (tK [] "") (tCons (tK [32] " ") (tCons (tK [10] "\n") (tCons (tK [45, 45] "--") tNil))))) tNil)))) (gName 3))
  (tSeq (tAsgN (tLst tNil) (gName 4))
  (tSeq (tFor (iRng1 (tCons (tCall (sp__law_draw K) [] L2.E0 (tCons (tVar 0) (tCons (tVar 1) (tCons (tC (.int 9)) tNil)))) tNil)) (gName 5) (tSeq (tAsg (tCall (sp__law_pick K) [] L2.E0 (tCons (tVar 0) (tCons (tVar 1) (tCons (tLst (tCons (tK [97] "a") (tCons (tK [119, 111, 114, 100] "word") (tCons (tK [87, 57] "W9") (tCons (tK [48, 48, 48] "000") (tCons (tK [65, 98, 99] "Abc") tNil)))))) tNil)))) (gName 6))
  (tSeq (tDrop (tBM K "list" rAppend (tVar 4) (tCons (tTup (tCons (tCB (rLen K) (tCons (tVar 3) tNil)) (tCons (tOp rPlus (tCB (rLen K) (tCons (tVar 3) tNil)) (tCB (rLen K) (tCons (tVar 6) tNil))) tNil))) tNil)))
  (tAsg (tOp rAddStr (tOp rAddStr (tVar 3) (tVar 6)) (tCall (sp__law_pick K) [] L2.E0 (tCons (tVar 0) (tCons (tVar 1) (tCons (tVar 2) tNil))))) (gName 3)))))
  (tSeq (tIfS (tAnd (tTest (tOp (rNeD K) (tVar 4) (tLst tNil))) (tTest (tOp rEq (tCall (sp__law_draw K) [] L2.E0 (tCons (tVar 0) (tCons (tVar 1) (tCons (tC (.int 2)) tNil)))) (tC (.int 0))))) (tAsg (tSl rSlS (tVar 3) tNoPart (tPart (tOp (rIxT K) (tOp (rIxL K) (tVar 4) (tUn (rU fun i => .int (-i)) (tC (.int 1)))) (tC (.int 1))))) (gName 3)) tNext)
  (tSeq (tAsgN (tMake (He.ga K "Sheet") (sp_Sheet_init K) [] L2.E0 (tCons (tVar 3) (tCons (tOp rPlus (tC (.int 2)) (tCall (sp__law_draw K) [] L2.E0 (tCons (tVar 0) (tCons (tVar 1) (tCons (tC (.int 20)) tNil))))) (tCons (tC (.int 3)) tNil)))) (gName 7))
  (tSeq (tFor (iList K (tVar 4)) (gTup K 2 (gCons (gName 8) (gCons (gName 9) gNil))) (tSeq (tDrop (tMeth (He.ga K "Sheet") "move" (sp_Sheet_move K) [] L2.E0 (tVar 7) (tCons (tK [119, 111, 114, 100, 114, 105, 103, 104, 116] "wordright") (tCons (tC (.bl false)) tNil))))
  (tIfS (tTest (tOp rNe (tOp (rIxT K) (tMeth (He.ga K "Sheet") "at" (sp_Sheet_at K) [] L2.E0 (tVar 7) tNil) (tC (.int 0))) (tVar 9))) (tRet (tC (.bl false))) tNext)))
  (tSeq (tDrop (tMeth (He.ga K "Sheet") "move" (sp_Sheet_move K) [] L2.E0 (tVar 7) (tCons (tK [119, 111, 114, 100, 114, 105, 103, 104, 116] "wordright") (tCons (tC (.bl false)) tNil))))
  (tSeq (tIfS (tTest (tOp rNe (tOp (rIxT K) (tMeth (He.ga K "Sheet") "at" (sp_Sheet_at K) [] L2.E0 (tVar 7) tNil) (tC (.int 0))) (tCB (rLen K) (tCons (tVar 3) tNil)))) (tRet (tC (.bl false))) tNext)
  (tSeq (tFor (iList K (tRev K (tVar 4) (tPart (tUn (rU fun i => .int (-i)) (tC (.int 1)))))) (gTup K 2 (gCons (gName 8) (gCons (gName 9) gNil))) (tSeq (tDrop (tMeth (He.ga K "Sheet") "move" (sp_Sheet_move K) [] L2.E0 (tVar 7) (tCons (tK [119, 111, 114, 100, 108, 101, 102, 116] "wordleft") (tCons (tC (.bl true)) tNil))))
  (tIfS (tOr (tTest (tOp rNe (tOp (rIxT K) (tMeth (He.ga K "Sheet") "at" (sp_Sheet_at K) [] L2.E0 (tVar 7) tNil) (tC (.int 0))) (tVar 8))) (tTest (tOp (rNeD K) (tMeth (He.ga K "Sheet") "chosen" (sp_Sheet_chosen K) [] L2.E0 (tVar 7) tNil) (tTup (tCons (tVar 8) (tCons (tCB (rLen K) (tCons (tVar 3) tNil)) tNil)))))) (tRet (tC (.bl false))) tNext)))
  (tSeq (tDrop (tMeth (He.ga K "Sheet") "move" (sp_Sheet_move K) [] L2.E0 (tVar 7) (tCons (tK [119, 111, 114, 100, 108, 101, 102, 116] "wordleft") (tCons (tC (.bl false)) tNil))))
  (tSeq (tIfS (tTest (tOp rNe (tOp (rIxT K) (tMeth (He.ga K "Sheet") "at" (sp_Sheet_at K) [] L2.E0 (tVar 7) tNil) (tC (.int 0))) (tC (.int 0)))) (tRet (tC (.bl false))) tNext)
  (tSeq (tFor (iList K (tVar 4)) (gTup K 2 (gCons (gName 8) (gCons (gName 9) gNil))) (tFor (iRng2 (tCons (tVar 8) (tCons (tOp rPlus (tVar 9) (tC (.int 1))) tNil))) (gName 10) (tSeq (tDrop (tMeth (He.ga K "Sheet") "go" (sp_Sheet_go K) [] L2.E0 (tVar 7) (tCons (tVar 10) tNil)))
  (tSeq (tDrop (tMeth (He.ga K "Sheet") "move" (sp_Sheet_move K) [] L2.E0 (tVar 7) (tCons (tK [119, 111, 114, 100, 114, 105, 103, 104, 116] "wordright") (tCons (tC (.bl false)) tNil))))
  (tSeq (tIfS (tAnd (tTest (tOp rLt' (tVar 10) (tVar 9))) (tTest (tOp rNe (tOp (rIxT K) (tMeth (He.ga K "Sheet") "at" (sp_Sheet_at K) [] L2.E0 (tVar 7) tNil) (tC (.int 0))) (tVar 9)))) (tRet (tC (.bl false))) tNext)
  (tSeq (tDrop (tMeth (He.ga K "Sheet") "go" (sp_Sheet_go K) [] L2.E0 (tVar 7) (tCons (tVar 10) tNil)))
  (tSeq (tDrop (tMeth (He.ga K "Sheet") "move" (sp_Sheet_move K) [] L2.E0 (tVar 7) (tCons (tK [119, 111, 114, 100, 108, 101, 102, 116] "wordleft") (tCons (tC (.bl false)) tNil))))
  (tIfS (tAnd (tTest (tOp rGt' (tVar 10) (tVar 8))) (tTest (tOp rNe (tOp (rIxT K) (tMeth (He.ga K "Sheet") "at" (sp_Sheet_at K) [] L2.E0 (tVar 7) tNil) (tC (.int 0))) (tVar 8)))) (tRet (tC (.bl false))) tNext))))))))
  (tRet (tC (.bl true)))))))))))))))))
theorem len_f_law {K : PySem.W.Frag} : ∀ ds R X, f_law K ds R X → ds.length = 1 := by
  rintro ds R X ⟨_, rfl, _⟩
  rfl
theorem len_law {K : PySem.W.Frag} : ∀ vs H Q E, sp_law K vs H Q E → vs.length = 1 := fun _ _ _ _ h => spOf_len (pf_len len_f_law) h
theorem pure_law {K : PySem.W.Frag} {vs : List V} {H : Hp} {Q : VK} {E : XK} (h : sp_law K vs H Q E) : t_law K E { nx := fun _ H' => Q .non H', rt := Q } (L2.start ["script", "town", "gaps", "text", "words", "k", "word", "sheet", "start", "end", "offset"] vs) H := by
  refine bodyP (ts := t_law K) 1 10 rfl len_f_law (fun ds R X ⟨ns, e, XF, F, C, M, hk⟩ => ?_) h
  subst e
  show T K _ (t_law K E) [some (.d (.scr ns)), none, none, none, none, none, none, none, none, none, none] _ _ _
  unfold t_law
  refine t_seq (t_newL (wd_nil ⟨by simp, fun tp => ?_⟩))
  show T K _ _ [some (.d (.scr ns)), some (.o tp (twn K 0)), none, none, none, none, none, none, none, none, none] _ _ _
  refine t_seq (t_set ?_)
  walk_at "xe"
  refine ⟨by show 7 ≤ 16000000; decide, _, rfl, ?_⟩
  refine t_seq (t_set (w_call ?_))
  walk_at "xe"
  refine ⟨by show 4 ≤ 16000000; decide, ?_⟩
  walk_at "xe"
  refine cl_pick (n := 0) (i := 1) rfl (by decide) (by show 0 < 4; decide) (by show 4 < 1000; decide) fun d0 hd0 => ⟨_, rfl, ?_⟩
  obtain ⟨pre, rfl, pl, pok, plt⟩ := pre_ok hd0
  refine t_seq (t_newL (wd_nil ⟨by simp, fun wp => ?_⟩))
  show T K _ _ [some (.d (.scr ns)), some (.o tp (twn K 1)), some (.d (.lst gapsD)), some (.d (.str pre)), some (.o wp (olst K [])), none, none, none, none, none, none] _ _ _
  have pre0 : ∀ j, lN pre j = false := fun j => by
    unfold lN
    cases hx : pre[j]? with
    | none => rfl
    | some c => exact plt c (List.mem_of_getElem? hx)
  have w0 : Wds pre [] := ⟨fun i s e h => by simp at h, fun i s e s' e' h => by simp at h, fun s e h => by simp at h, fun s e h => by simp at h, fun _ => pre0⟩
  refine t_seq (t_for (wi_rng1 ?_))
  refine wd_cons (w_call ?_)
  walk_at "xe"
  refine cl_draw (n := 1) (i := 1) rfl (by decide) (by decide) (by decide) fun v v0 v1 => ⟨_, rfl, wd_nil ⟨v, rfl, by omega, by omega, ?_⟩⟩
  obtain ⟨v, rfl⟩ : ∃ k : Nat, v = (k : Int) := ⟨v.toNat, by omega⟩
  rw [Int.toNat_natCast]
  refine ⟨fun i δ => ∃ (n : Nat) (t : List Nat) (ws : List (Nat × Nat)) (x5 x6 : Option Dx), n ≤ 2 + 2 * i ∧ t.length ≤ 2 + 9 * i ∧ ws.length ≤ i ∧ (∀ c ∈ t, okSign c = true) ∧ Wds t ws ∧ (t = [] ∨ lN t (t.length - 1) = false) ∧ δ = [some (.d (.scr ns)), some (.o tp (twn K n)), some (.d (.lst gapsD)), some (.d (.str t)), some (.o wp (olst K (ws.map dWd))), x5, x6, none, none, none, none], ⟨2, pre, [], none, none, by omega, by omega, Nat.le_refl _, pok, w0, .inr (pre0 _), rfl⟩, ?_, ?_⟩
  · rintro i d δ hd ⟨n, t, ws, x5, x6, hn, htl, hwl, tok, wds, hend, rfl⟩
    have hi : i < 9 := by
      have := (List.getElem?_eq_some_iff.mp hd).1
      rw [ran_len] at this
      omega
    refine g_name ?_
    refine t_seq (t_set (w_call ?_))
    walk_at "xe"
    refine ⟨by show 5 ≤ 16000000; decide, ?_⟩
    walk_at "xe"
    refine cl_pick (n := n) (i := 1) rfl (by omega) (by show 0 < 5; decide) (by show 5 < 1000; decide) fun d1 hd1 => ⟨_, rfl, ?_⟩
    obtain ⟨wo, rfl, wne, wll, wok, wlt⟩ := word_ok hd1
    refine t_seq (t_drop (w_append (w_own rfl ⟨wp, 4, rfl, ⟨_, rfl⟩, ?_⟩)))
    walk_at "xe"
    refine ⟨by show 2 ≤ 16000000; decide, _, ws.map dWd, rfl, rfl, by rw [List.length_map]; omega, ?_⟩
    refine t_set ?_
    walk_at "xe"
    refine rd_addS (by omega) ?_
    refine w_call ?_
    walk_at "xe"
    refine cl_pick (n := n + 1) (i := 1) rfl (by omega) (by show 0 < 7; decide) (by show 7 < 1000; decide) fun d2 hd2 => ?_
    obtain ⟨gp, rfl, gne, gll, gok, glt⟩ := gap_ok hd2
    refine rd_addS (by rw [List.length_append]; omega) ⟨_, rfl, ?_⟩
    obtain ⟨wd1, we1⟩ := wds_add wds hend wne gne wlt glt
    refine ⟨n + 2, t ++ wo ++ gp, ws ++ [(t.length, t.length + wo.length)], some (.d d), some (.d (.str wo)), by omega, by rw [List.length_append, List.length_append]; omega, by rw [List.length_append, List.length_singleton]; omega, fun c hc => ?_, wd1, we1, ?_⟩
    · rcases List.mem_append.mp hc with hc | hc
      · rcases List.mem_append.mp hc with hc | hc
        · exact tok c hc
        · exact wok c hc
      · exact gok c hc
    · rw [List.map_append]
      rfl
  rintro δ ⟨n, t, ws, x5, x6, hn, htl, hwl, tok, wds, hend, rfl⟩
  rw [ran_len] at hn htl hwl
  refine t_freeze (i := 4) rfl ?_
  show T K _ _ [some (.d (.scr ns)), some (.o tp (twn K n)), some (.d (.lst gapsD)), some (.d (.str t)), some (.d (.lst (ws.map dWd))), x5, x6, none, none, none, none] _ _ _
  refine t_seq (T.imp (N := fun δ => ∃ (n' : Nat) (t' : List Nat), n' ≤ n + 1 ∧ t'.length ≤ 100 ∧ (∀ c ∈ t', okSign c = true) ∧ Wds t' ws ∧ δ = [some (.d (.scr ns)), some (.o tp (twn K n')), some (.d (.lst gapsD)), some (.d (.str t')), some (.d (.lst (ws.map dWd))), x5, x6, none, none, none, none]) (R := fun x δ' => RetD K 1 x δ' R) ?_ ?_ (fun _ _ z => z))
  · refine t_if (wt_and (wt_test (w_op (w_var rfl (w_lst (wd_nil ⟨by simp, rd_neD 2 1 (lv_words ws) (fun x hx => by cases hx) ⟨_, rfl, fun h1 => ?_, fun h1 => ⟨(fun z => nomatch z), fun _ => t_next ⟨n, t, by omega, by omega, tok, wds, rfl⟩⟩⟩⟩))))))
    refine wt_test (w_op (w_call ?_))
    walk_at "xe"
    refine cl_draw (n := n) (i := 1) rfl (by omega) (by decide) (by decide) fun c c0 c1 => ?_
    walk_at "xe"
    refine ⟨fun _ => ?_, fun _ => t_next ⟨n + 1, t, Nat.le_refl _, by omega, tok, wds, rfl⟩⟩
    have hne : ws ≠ [] := fun z => by
      subst z
      exact absurd h1 (by decide)
    obtain ⟨⟨s, e⟩, hl⟩ : ∃ q, ws.getLast? = some q := ⟨_, List.getLast?_eq_some_getLast hne⟩
    have hlD : (ws.map dWd).getLast? = some (dWd (s, e)) := by rw [List.getLast?_map, hl]; rfl
    have hee : e ≤ t.length := by
      rw [List.getLast?_eq_getElem?] at hl
      exact (wds.w _ s e hl).2.1
    refine t_set (w_slS (w_var rfl ⟨t, rfl, by omega, wo_none (wo_some ?_)⟩))
    walk_at "xe"
    refine rd_ixL (atI_lastN hlD) ?_
    walk_at "xe"
    refine rd_ixT (d := .int e) rfl ⟨_, rfl, ?_⟩
    rw [cut_to]
    exact ⟨_, rfl, n + 1, t.take e, Nat.le_refl _, by rw [List.length_take]; omega, fun c hc => tok c (List.mem_of_mem_take hc), wds_cut wds hl, rfl⟩
  clear htl tok wds hend
  rintro δ ⟨n', t, hn', htl, tok, wds, rfl⟩
  have it : isText t = true := isText_of (by omega) tok
  refine t_seq (t_makeS0 (wd_cons (w_var rfl ⟨_, rfl, wd_cons (w_op (w_int (w_call ?_)))⟩)))
  walk_at "xe"
  refine cl_draw (n := n') (i := 1) rfl (by omega) (by decide) (by decide) fun u u0 u1 => ?_
  walk_at "xe"
  obtain ⟨w, hwe, hw1, hw2⟩ : ∃ w : Nat, (2 + u) = (w : Int) ∧ 2 ≤ w ∧ w ≤ 21 := ⟨(2 + u).toNat, by omega, by omega, by omega⟩
  rw [hwe]
  clear hwe u u0 u1
  intro p
  have gw : ((2 : Int) ≤ (w : Int) ∧ (w : Int) ≤ 200) ∧ goodH 3 := ⟨by omega, by unfold goodH; omega⟩
  refine ⟨_, [some 7, none, none, none], .o rfl (.d (.d (.d .nil))), uq4, p, t, w, 3, rfl, C, by omega, (fun z => by rw [it] at z; exact nomatch z), (fun _ z => absurd gw z), fun _ _ => ⟨rfl, ?_⟩⟩
  rw [Int.toNat_natCast]
  have iv0 : Iv (s0 t w 3) := Iv.s0 it ⟨hw1, by omega⟩ ⟨by decide, by decide⟩
  have wdsl := fun i s e h => (wds.w i s e h).2.1
  have caretAt : ∀ {s : Sh} {δ : Dl} {E : WX} {P : PX} {X : XX}, Iv s → δ[7]? = some (some (.o p (osh K s))) → δ.set 7 (some (.o p (osh K s))) = δ → P (.d (.int s.caret)) δ → W K E (tOp (rIxT K) (tMeth (He.ga K "Sheet") "at" (sp_Sheet_at K) [] L2.E0 (tVar 7) tNil) (tC (.int 0))) δ P X := fun {s δ E P X} iv h7 hs k => w_op (w_mAt h7 F C iv.wf hs (w_int (rd_ixT (d := .int s.caret) rfl k)))
  -- forth
  show T K _ _ [some (.d (.scr ns)), some (.o tp (twn K (n' + 1))), some (.d (.lst gapsD)), some (.d (.str t)), some (.d (.lst (ws.map dWd))), x5, x6, some (.o p (osh K (s0 t w 3))), none, none, none] _ _ _
  refine t_seq (t_for (wi_list (w_var rfl ⟨_, rfl, ?_⟩)))
  refine ⟨fun i δ => ∃ (s : Sh) (x8 x9 : Option Dx), Iv s ∧ s.now = t ∧ (i = 0 → s.caret = 0) ∧ (∀ j a b, i = j + 1 → ws[j]? = some (a, b) → s.caret = b) ∧ δ = [some (.d (.scr ns)), some (.o tp (twn K (n' + 1))), some (.d (.lst gapsD)), some (.d (.str t)), some (.d (.lst (ws.map dWd))), x5, x6, some (.o p (osh K s)), x8, x9, none], ⟨s0 t w 3, none, none, iv0, rfl, (fun _ => rfl), (fun j a b z => by omega), rfl⟩, ?_, ?_⟩
  · rintro i d δ hd ⟨s, x8, x9, iv, hs, hc0, hc1, rfl⟩
    obtain ⟨⟨a, b⟩, hab, rfl⟩ := map_get hd
    obtain ⟨w1, w2, w3, w4, w5⟩ := wds.w i a b hab
    have hwr : WR s.now s.caret b := by
      rw [hs]
      cases i with
      | zero =>
        rw [hc0 rfl]
        exact wr_of (b := a) (Nat.zero_le _) (by omega) w2 (fun j _ j2 => wds.f a b hab j j2) w3 (.inr (w3 a (Nat.le_refl _) w1)) w4
      | succ i =>
        obtain ⟨⟨a', b'⟩, hab'⟩ : ∃ q, ws[i]? = some q := ⟨_, List.getElem?_eq_getElem (by have := (List.getElem?_eq_some_iff.mp hab).1; omega)⟩
        rw [hc1 i a' b' rfl hab']
        obtain ⟨n1, n2⟩ := wds.n i a' b' a b hab' hab
        exact wr_of n1 (by omega) w2 n2 w3 (.inr (w3 a (Nat.le_refl _) w1)) w4
    have hm := move_wr iv.wf false hwr
    refine g_tup rfl (gs_cons (g_name (gs_cons (g_name (gs_nil ?_)))))
    refine t_seq (t_drop (w_mV rfl (by decide) ?_))
    walk_at "xe"
    refine cl_move (i := 7) rfl F C M iv.wf (fun z => absurd (show mWR ∈ movesL by decide) z) fun _ => ?_
    refine t_if (wt_test (w_op (caretAt (s := moveS s mWR false) (iv.move _ _) rfl rfl (w_var rfl (rd_neI ⟨_, rfl, fun z => ?_, fun _ => t_next ?_⟩)))))
    · rw [hm.1] at z
      simp at z
    · exact ⟨moveS s mWR false, _, _, iv.move _ _, by rw [(moveS_now s mWR false).1]; exact hs, (fun z => nomatch z), fun j a' b' hj hab' => by
        have : j = i := by omega
        subst this
        rw [hab] at hab'
        cases hab'
        exact hm.1, rfl⟩
  rintro δ ⟨s, x8, x9, iv, hs, hc0, hc1, rfl⟩
  rw [List.length_map] at hc0 hc1
  have hlast : ∀ j, s.caret ≤ j → lN t j = false := by
    rcases Nat.eq_zero_or_pos ws.length with z | z
    · exact fun j _ => wds.z (List.length_eq_zero_iff.mp z) j
    · obtain ⟨⟨a, b⟩, hab⟩ : ∃ q, ws[ws.length - 1]? = some q := ⟨_, List.getElem?_eq_getElem (by omega)⟩
      have hcb := hc1 (ws.length - 1) a b (by omega) hab
      intro j hj
      exact wds.l a b (by rw [List.getLast?_eq_getElem?]; exact hab) j (by omega)
  have hcl : s.caret ≤ t.length := by have := iv.wf.c; rw [hs] at this; exact this
  have hwr : WR s.now s.caret t.length := by
    rw [hs]
    exact wr_of (b := t.length) hcl (Nat.le_refl _) (Nat.le_refl _) (fun j j1 _ => hlast j j1) (fun j j1 j2 => by omega) (.inl rfl) (lN_out (Nat.le_refl _))
  have hm := move_wr iv.wf false hwr
  refine t_seq (t_drop (w_mV rfl (by decide) ?_))
  walk_at "xe"
  refine cl_move (i := 7) rfl F C M iv.wf (fun z => absurd (show mWR ∈ movesL by decide) z) fun _ => ?_
  refine t_seq (t_if (wt_test (w_op (caretAt (s := moveS s mWR false) (iv.move _ _) rfl rfl ?_))))
  walk_at "xe"
  refine ⟨fun z => ?_, fun _ => t_next ?_⟩
  · rw [hm.1] at z
    simp at z
  have iv1 := iv.move mWR false
  have hs1 : (moveS s mWR false).now = t := by rw [(moveS_now s mWR false).1]; exact hs
  obtain ⟨hm1, hm2⟩ := hm
  show T K _ _ [some (.d (.scr ns)), some (.o tp (twn K (n' + 1))), some (.d (.lst gapsD)), some (.d (.str t)), some (.d (.lst (ws.map dWd))), x5, x6, some (.o p (osh K (moveS s mWR false))), x8, x9, none] _ _ _
  generalize moveS s mWR false = s1 at iv1 hs1 hm1 hm2
  have hm2 : s1.anchor = t.length := hm2
  -- back
  refine t_seq (t_for (wi_list (w_revL (w_var rfl ⟨_, rfl, _, rfl, ?_⟩))))
  rw [← List.map_reverse]
  have revget : ∀ {i : Nat} {q : Nat × Nat}, ws.reverse[i]? = some q → i < ws.length ∧ ws[ws.length - 1 - i]? = some q := fun {i q} h => by
    have hi := (List.getElem?_eq_some_iff.mp h).1
    rw [List.length_reverse] at hi
    rw [List.getElem?_reverse hi] at h
    exact ⟨hi, h⟩
  refine ⟨fun i δ => ∃ (s : Sh) (x8 x9 : Option Dx), Iv s ∧ s.now = t ∧ s.anchor = t.length ∧ (i = 0 → s.caret = t.length) ∧ (∀ j a b, i = j + 1 → ws[ws.length - 1 - j]? = some (a, b) → s.caret = a) ∧ δ = [some (.d (.scr ns)), some (.o tp (twn K (n' + 1))), some (.d (.lst gapsD)), some (.d (.str t)), some (.d (.lst (ws.map dWd))), x5, x6, some (.o p (osh K s)), x8, x9, none], ⟨s1, _, _, iv1, hs1, hm2, (fun _ => hm1), (fun j a b z => by omega), rfl⟩, ?_, ?_⟩
  · rintro i d δ hd ⟨s, x8, x9, iv, hs, ha, hc0, hc1, rfl⟩
    obtain ⟨⟨a, b⟩, hab0, rfl⟩ := map_get hd
    obtain ⟨hi, hab⟩ := revget hab0
    obtain ⟨w1, w2, w3, w4, w5⟩ := wds.w _ a b hab
    have hwl : WL s.now s.caret a := by
      rw [hs]
      cases i with
      | zero =>
        rw [hc0 rfl]
        exact wl_of (b := b) (by omega) w2 (fun j j1 _ => wds.l a b (by rw [List.getLast?_eq_getElem?]; exact hab) j j1) w3 (.inr ⟨by omega, w3 (b - 1) (by omega) (by omega)⟩) w5
      | succ i =>
        obtain ⟨⟨a', b'⟩, hab'⟩ : ∃ q, ws[ws.length - 1 - i]? = some q := ⟨_, List.getElem?_eq_getElem (by omega)⟩
        rw [hc1 i a' b' rfl hab']
        have hix : ws.length - 1 - (i + 1) + 1 = ws.length - 1 - i := by omega
        obtain ⟨n1, n2⟩ := wds.n _ a b a' b' hab (by rw [hix]; exact hab')
        exact wl_of (b := b) (by omega) n1 n2 w3 (.inr ⟨by omega, w3 (b - 1) (by omega) (by omega)⟩) w5
    obtain ⟨hm1, hm2⟩ := move_wl iv.wf true hwl
    have hm2 : (moveS s mWL true).anchor = s.anchor := hm2
    refine g_tup rfl (gs_cons (g_name (gs_cons (g_name (gs_nil ?_)))))
    refine t_seq (t_drop (w_mV rfl (by decide) ?_))
    walk_at "xe"
    refine cl_move (i := 7) rfl F C M iv.wf (fun z => absurd (show mWL ∈ movesL by decide) z) fun _ => ?_
    refine t_if (wt_or (wt_test (w_op (caretAt (s := moveS s mWL true) (iv.move _ _) rfl rfl (w_var rfl (rd_neI ⟨_, rfl, fun z => ?_, fun _ => ?_⟩))))))
    · rw [hm1] at z
      simp at z
    refine wt_test (w_op (w_mChosen rfl F C (iv.move _ _).wf rfl (w_tup ?_)))
    walk_at "xe"
    refine ⟨by show 2 ≤ 16000000; decide, ?_⟩
    have ec : chD (moveS s mWL true) = .tup [.int (a : Int), .int (t.length : Int)] := by
      unfold chD
      rw [hm1, hm2, ha, Nat.min_eq_left (by omega), Nat.max_eq_right (by omega)]
    have lvc := lv_chD (moveS s mWL true)
    have ec2 : chD (moveS s [119, 111, 114, 100, 108, 101, 102, 116] true) = .tup [.int (a : Int), .int (t.length : Int)] := ec
    rw [ec] at lvc
    rw [ec2]
    refine rd_neD 1 1 lvc lvc ?_
    have e1 : eqd (.tup [.int (a : Int), .int (t.length : Int)]) (.tup [.int (a : Int), .int (t.length : Int)]) = true := eqd_refl lvc
    rw [e1]
    refine ⟨_, rfl, (fun z => nomatch z), fun _ => t_next ?_⟩
    exact ⟨moveS s mWL true, _, _, iv.move _ _, by rw [(moveS_now s mWL true).1]; exact hs, by rw [hm2]; exact ha, (fun z => nomatch z), fun j a' b' hj hab' => by
      have : j = i := by omega
      subst this
      rw [hab] at hab'
      cases hab'
      exact hm1, rfl⟩
  rintro δ ⟨s, y8, y9, iv, hs, ha, hc0, hc1, rfl⟩
  rw [List.length_map, List.length_reverse] at hc0 hc1
  have hcl : s.caret ≤ t.length := by have := iv.wf.c; rw [hs] at this; exact this
  have hwl : WL s.now s.caret 0 := by
    rw [hs]
    refine wl_of (b := 0) (Nat.le_refl _) (Nat.zero_le _) (fun j _ j2 => ?_) (fun j j1 j2 => by omega) (.inl rfl) (.inl rfl)
    rcases Nat.eq_zero_or_pos ws.length with z | z
    · exact wds.z (List.length_eq_zero_iff.mp z) j
    · obtain ⟨⟨a, b⟩, hab⟩ : ∃ q, ws[0]? = some q := ⟨_, List.getElem?_eq_getElem z⟩
      have hcb := hc1 (ws.length - 1) a b (by omega) (by rw [show ws.length - 1 - (ws.length - 1) = 0 by omega]; exact hab)
      exact wds.f a b hab j (by omega)
  have hm := move_wl iv.wf false hwl
  refine t_seq (t_drop (w_mV rfl (by decide) ?_))
  walk_at "xe"
  refine cl_move (i := 7) rfl F C M iv.wf (fun z => absurd (show mWL ∈ movesL by decide) z) fun _ => ?_
  refine t_seq (t_if (wt_test (w_op (caretAt (s := moveS s mWL false) (iv.move _ _) rfl rfl (w_int (rd_neI ⟨_, rfl, fun z => ?_, fun _ => t_next ?_⟩))))))
  · rw [hm.1] at z
    simp at z
  have iv1 := iv.move mWL false
  have hs1 : (moveS s mWL false).now = t := by rw [(moveS_now s mWL false).1]; exact hs
  show T K _ _ [some (.d (.scr ns)), some (.o tp (twn K (n' + 1))), some (.d (.lst gapsD)), some (.d (.str t)), some (.d (.lst (ws.map dWd))), x5, x6, some (.o p (osh K (moveS s mWL false))), y8, y9, none] _ _ _
  generalize moveS s mWL false = s1 at iv1 hs1
  -- within words
  refine t_seq (t_for (wi_list (w_var rfl ⟨_, rfl, ?_⟩)))
  refine ⟨fun i δ => ∃ (s : Sh) (x8 x9 x10 : Option Dx), Iv s ∧ s.now = t ∧ δ = [some (.d (.scr ns)), some (.o tp (twn K (n' + 1))), some (.d (.lst gapsD)), some (.d (.str t)), some (.d (.lst (ws.map dWd))), x5, x6, some (.o p (osh K s)), x8, x9, x10], ⟨s1, _, _, _, iv1, hs1, rfl⟩, ?_, ?_⟩
  · rintro i d δ hd ⟨s, x8, x9, x10, iv, hs, rfl⟩
    obtain ⟨⟨a, b⟩, hab, rfl⟩ := map_get hd
    obtain ⟨w1, w2, w3, w4, w5⟩ := wds.w i a b hab
    refine g_tup rfl (gs_cons (g_name (gs_cons (g_name (gs_nil ?_)))))
    refine t_for (wi_rng2 ?_)
    walk_at "xe"
    refine ⟨(a : Int), (b : Int) + 1, rfl, ⟨by omega, by omega, by omega, by omega⟩, ?_⟩
    have hlen : ((b : Int) + 1 - (a : Int)).toNat = b + 1 - a := by omega
    rw [hlen]
    refine ⟨fun k δ => ∃ (s : Sh) (x10 : Option Dx), Iv s ∧ s.now = t ∧ δ = [some (.d (.scr ns)), some (.o tp (twn K (n' + 1))), some (.d (.lst gapsD)), some (.d (.str t)), some (.d (.lst (ws.map dWd))), x5, x6, some (.o p (osh K s)), some (.d (.int (a : Int))), some (.d (.int (b : Int))), x10], ⟨s, _, iv, hs, rfl⟩, ?_, ?_⟩
    · rintro k d δ hd2 ⟨s, x10, iv, hs, rfl⟩
      have hk2 : k < b + 1 - a := by
        have := (List.getElem?_eq_some_iff.mp hd2).1
        rw [ran_len] at this
        exact this
      rw [ran_get hk2] at hd2
      cases hd2
      obtain ⟨o, ho, hao, hob⟩ : ∃ o : Nat, (a : Int) + (k : Int) = (o : Int) ∧ a ≤ o ∧ o ≤ b := ⟨a + k, by omega, by omega, by omega⟩
      rw [ho]
      have hol : o ≤ t.length := by omega
      have goI : ∀ {s : Sh}, Iv s → s.now = t → Iv (putS { s with wish := none } o false false) ∧ (putS { s with wish := none } o false false).now = t ∧ (putS { s with wish := none } o false false).caret = o := fun {s} iv hs => ⟨(iv.wish none).put (by show o ≤ s.now.length; rw [hs]; exact hol) _ _, hs, rfl⟩
      refine g_name ?_
      refine t_seq (t_drop (w_mV rfl (by decide) ?_))
      walk_at "xe"
      refine cl_go (i := 7) rfl F C iv.wf (fun z => absurd ⟨by omega, by rw [hs]; omega⟩ z) fun _ => ?_
      rw [Int.toNat_natCast]
      obtain ⟨iv2, hs2, hc2⟩ := goI iv hs
      generalize putS { s with wish := none } o false false = s2 at iv2 hs2 hc2
      refine t_seq (t_drop (w_mV rfl (by decide) ?_))
      walk_at "xe"
      refine cl_move (i := 7) rfl F C M iv2.wf (fun z => absurd (show mWR ∈ movesL by decide) z) fun _ => ?_
      have iv3 := iv2.move mWR false
      have hs3 : (moveS s2 mWR false).now = t := by rw [(moveS_now s2 mWR false).1]; exact hs2
      have hc3 : o < b → (moveS s2 mWR false).caret = b := fun hlt => (move_wr iv2.wf false (by
        rw [hs2, hc2]
        exact wr_of (b := o) (Nat.le_refl _) hob w2 (fun j j1 j2 => by omega) (fun j j1 j2 => w3 j (by omega) j2) (.inr (w3 o hao hlt)) w4)).1
      show T K _ _ [some (.d (.scr ns)), some (.o tp (twn K (n' + 1))), some (.d (.lst gapsD)), some (.d (.str t)), some (.d (.lst (ws.map dWd))), x5, x6, some (.o p (osh K (moveS s2 mWR false))), some (.d (.int (a : Int))), some (.d (.int (b : Int))), some (.d (.int (o : Int)))] _ _ _
      generalize moveS s2 mWR false = s3 at iv3 hs3 hc3
      refine t_seq (T.imp (N := fun δ => δ = [some (.d (.scr ns)), some (.o tp (twn K (n' + 1))), some (.d (.lst gapsD)), some (.d (.str t)), some (.d (.lst (ws.map dWd))), x5, x6, some (.o p (osh K s3)), some (.d (.int (a : Int))), some (.d (.int (b : Int))), some (.d (.int (o : Int)))]) (R := fun x δ' => RetD K 1 x δ' R) ?_ ?_ (fun _ _ z => z))
      · refine t_if (wt_and (wt_test (w_op (w_var rfl (w_var rfl (rd_I0b ⟨_, rfl, fun h1 => ?_, fun h1 => ⟨(fun z => nomatch z), fun _ => t_next rfl⟩⟩))))))
        have h1 := of_decide_eq_true h1
        refine wt_test (w_op (caretAt iv3 rfl rfl (w_var rfl (rd_neI ⟨_, rfl, fun z => ?_, fun _ => t_next rfl⟩))))
        rw [hc3 (by omega)] at z
        simp at z
      rintro δ rfl
      refine t_seq (t_drop (w_mV rfl (by decide) ?_))
      walk_at "xe"
      refine cl_go (i := 7) rfl F C iv3.wf (fun z => absurd ⟨by omega, by rw [hs3]; omega⟩ z) fun _ => ?_
      rw [Int.toNat_natCast]
      obtain ⟨iv4, hs4, hc4⟩ := goI iv3 hs3
      generalize putS { s3 with wish := none } o false false = s4 at iv4 hs4 hc4
      refine t_seq (t_drop (w_mV rfl (by decide) ?_))
      walk_at "xe"
      refine cl_move (i := 7) rfl F C M iv4.wf (fun z => absurd (show mWL ∈ movesL by decide) z) fun _ => ?_
      have iv5 := iv4.move mWL false
      have hs5 : (moveS s4 mWL false).now = t := by rw [(moveS_now s4 mWL false).1]; exact hs4
      have hc5 : a < o → (moveS s4 mWL false).caret = a := fun hlt => (move_wl iv4.wf false (by
        rw [hs4, hc4]
        exact wl_of (b := o) hao (Nat.le_refl _) (fun j j1 j2 => by omega) (fun j j1 j2 => w3 j j1 (by omega)) (.inr ⟨by omega, w3 (o - 1) (by omega) (by omega)⟩) w5)).1
      show T K _ _ [some (.d (.scr ns)), some (.o tp (twn K (n' + 1))), some (.d (.lst gapsD)), some (.d (.str t)), some (.d (.lst (ws.map dWd))), x5, x6, some (.o p (osh K (moveS s4 mWL false))), some (.d (.int (a : Int))), some (.d (.int (b : Int))), some (.d (.int (o : Int)))] _ _ _
      generalize moveS s4 mWL false = s5 at iv5 hs5 hc5
      refine t_if (wt_and (wt_test (w_op (w_var rfl (w_var rfl (rd_I0b ⟨_, rfl, fun h1 => ?_, fun h1 => ⟨(fun z => nomatch z), fun _ => t_next ⟨s5, _, iv5, hs5, rfl⟩⟩⟩))))))
      have h1 := of_decide_eq_true h1
      refine wt_test (w_op (caretAt iv5 rfl rfl (w_var rfl (rd_neI ⟨_, rfl, fun z => ?_, fun _ => t_next ⟨s5, _, iv5, hs5, rfl⟩⟩))))
      rw [hc5 (by omega)] at z
      simp at z
    · rintro δ ⟨s, x10, iv, hs, rfl⟩
      exact ⟨s, _, _, _, iv, hs, rfl⟩
  · rintro δ ⟨s, x8, x9, x10, iv, hs, rfl⟩
    exact t_ret (w_bl hk)
end Cr

namespace Cr
open PySem PySem.Spec PyProof.Rows L2
structure Txt (K : PySem.W.Frag) (mg : Str → Option Value) : Prop where
  g__wall : mg "_wall" = some (.ref (He.ga K "_wall"))
  g_is_text : mg "is_text" = some (.ref (He.ga K "is_text"))
  g_look_text : mg "look_text" = some (.ref (He.ga K "look_text"))
  g_look_width : mg "look_width" = some (.ref (He.ga K "look_width"))
  g_wide : mg "wide" = some (.ref (He.ga K "wide"))
  g_fitting : mg "fitting" = some (.ref (He.ga K "fitting"))
  g_row_end : mg "row_end" = some (.ref (He.ga K "row_end"))
  g_paragraph_rows : mg "paragraph_rows" = some (.ref (He.ga K "paragraph_rows"))
  g_paragraphs : mg "paragraphs" = some (.ref (He.ga K "paragraphs"))
  g_rows_of : mg "rows_of" = some (.ref (He.ga K "rows_of"))
  g_row_at : mg "row_at" = some (.ref (He.ga K "row_at"))
  g_column_of : mg "column_of" = some (.ref (He.ga K "column_of"))
  g_offset_at : mg "offset_at" = some (.ref (He.ga K "offset_at"))
  g_look_offset : mg "look_offset" = some (.ref (He.ga K "look_offset"))
  g_is_soft_end : mg "is_soft_end" = some (.ref (He.ga K "is_soft_end"))
  g_carried : mg "carried" = some (.ref (He.ga K "carried"))
  g__law_cell : mg "_law_cell" = some (.ref (He.ga K "_law_cell"))
  g__law_mix : mg "_law_mix" = some (.ref (He.ga K "_law_mix"))
  g__law_draw : mg "_law_draw" = some (.ref (He.ga K "_law_draw"))
  g__law_pick : mg "_law_pick" = some (.ref (He.ga K "_law_pick"))
  g_law : mg "law" = some (.ref (He.ga K "law"))
  g_CaretError : mg "CaretError" = some (.ref (He.ga K "CaretError"))
  g_BadText : mg "BadText" = some (.ref (He.ga K "BadText"))
  g_BadSize : mg "BadSize" = some (.ref (He.ga K "BadSize"))
  g_BadPlace : mg "BadPlace" = some (.ref (He.ga K "BadPlace"))
  g_BadMove : mg "BadMove" = some (.ref (He.ga K "BadMove"))
  g_Row : mg "Row" = some (.ref (He.ga K "Row"))
  g_Sheet : mg "Sheet" = some (.ref (He.ga K "Sheet"))
  cl_Row : Cls K (He.ga K "Row")
  mk_Row : Mk K (He.ga K "Row") (He.ma K (He.ga K "Row") "__init__")
  me_Row_told : Meth K (He.ga K "Row") "told" (He.ma K (He.ga K "Row") "told")
  na_Row_start : NoAttr K (He.ga K "Row") "start"
  na_Row_end : NoAttr K (He.ga K "Row") "end"
  na_Row_is_soft : NoAttr K (He.ga K "Row") "is_soft"
  cl_Sheet : Cls K (He.ga K "Sheet")
  mk_Sheet : Mk K (He.ga K "Sheet") (He.ma K (He.ga K "Sheet") "__init__")
  me_Sheet_text : Meth K (He.ga K "Sheet") "text" (He.ma K (He.ga K "Sheet") "text")
  me_Sheet_rows : Meth K (He.ga K "Sheet") "rows" (He.ma K (He.ga K "Sheet") "rows")
  me_Sheet_at : Meth K (He.ga K "Sheet") "at" (He.ma K (He.ga K "Sheet") "at")
  me_Sheet_chosen : Meth K (He.ga K "Sheet") "chosen" (He.ma K (He.ga K "Sheet") "chosen")
  me_Sheet_chosen_text : Meth K (He.ga K "Sheet") "chosen_text" (He.ma K (He.ga K "Sheet") "chosen_text")
  me_Sheet_put : Meth K (He.ga K "Sheet") "put" (He.ma K (He.ga K "Sheet") "put")
  me_Sheet_scroll : Meth K (He.ga K "Sheet") "scroll" (He.ma K (He.ga K "Sheet") "scroll")
  me_Sheet_go : Meth K (He.ga K "Sheet") "go" (He.ma K (He.ga K "Sheet") "go")
  me_Sheet_choose : Meth K (He.ga K "Sheet") "choose" (He.ma K (He.ga K "Sheet") "choose")
  me_Sheet_point : Meth K (He.ga K "Sheet") "point" (He.ma K (He.ga K "Sheet") "point")
  me_Sheet_is_letter : Meth K (He.ga K "Sheet") "is_letter" (He.ma K (He.ga K "Sheet") "is_letter")
  me_Sheet_word_right : Meth K (He.ga K "Sheet") "word_right" (He.ma K (He.ga K "Sheet") "word_right")
  me_Sheet_word_left : Meth K (He.ga K "Sheet") "word_left" (He.ma K (He.ga K "Sheet") "word_left")
  me_Sheet_flat_goal : Meth K (He.ga K "Sheet") "flat_goal" (He.ma K (He.ga K "Sheet") "flat_goal")
  me_Sheet_move : Meth K (He.ga K "Sheet") "move" (He.ma K (He.ga K "Sheet") "move")
  me_Sheet_move_rows : Meth K (He.ga K "Sheet") "move_rows" (He.ma K (He.ga K "Sheet") "move_rows")
  me_Sheet_change : Meth K (He.ga K "Sheet") "change" (He.ma K (He.ga K "Sheet") "change")
  me_Sheet_set_between : Meth K (He.ga K "Sheet") "set_between" (He.ma K (He.ga K "Sheet") "set_between")
  me_Sheet_write : Meth K (He.ga K "Sheet") "write" (He.ma K (He.ga K "Sheet") "write")
  me_Sheet_erase : Meth K (He.ga K "Sheet") "erase" (He.ma K (He.ga K "Sheet") "erase")
  me_Sheet_resize : Meth K (He.ga K "Sheet") "resize" (He.ma K (He.ga K "Sheet") "resize")
  me_Sheet_mark : Meth K (He.ga K "Sheet") "mark" (He.ma K (He.ga K "Sheet") "mark")
  me_Sheet_marks : Meth K (He.ga K "Sheet") "marks" (He.ma K (He.ga K "Sheet") "marks")
  me_Sheet_view : Meth K (He.ga K "Sheet") "view" (He.ma K (He.ga K "Sheet") "view")
  na_Sheet_now : NoAttr K (He.ga K "Sheet") "now"
  na_Sheet_width : NoAttr K (He.ga K "Sheet") "width"
  na_Sheet_height : NoAttr K (He.ga K "Sheet") "height"
  na_Sheet_caret : NoAttr K (He.ga K "Sheet") "caret"
  na_Sheet_is_back : NoAttr K (He.ga K "Sheet") "is_back"
  na_Sheet_anchor : NoAttr K (He.ga K "Sheet") "anchor"
  na_Sheet_wish : NoAttr K (He.ga K "Sheet") "wish"
  na_Sheet_first : NoAttr K (He.ga K "Sheet") "first"
  na_Sheet_marked : NoAttr K (He.ga K "Sheet") "marked"
  c_MOST_TEXT : ∃ t, mg "MOST_TEXT" = some (.int 2000 t)
  c_MOST_WIDTH : ∃ t, mg "MOST_WIDTH" = some (.int 200 t)
  c_GREAT : ∃ t, mg "GREAT" = some (.str "ABCDEFGHIJKLMNOPQRSTUVWXYZ" t)
  c_MOST_HEIGHT : ∃ t, mg "MOST_HEIGHT" = some (.int 100 t)
  c_LETTERS : ∃ t, mg "LETTERS" = some (.str "abcdefghijklmnopqrstuvwxyzABCDEFGHIJKLMNOPQRSTUVWXYZ0123456789" t)
  g_MOVES : mg "MOVES" = some (.ref (He.ga K "MOVES"))
  g_VERTICAL : mg "VERTICAL" = some (.ref (He.ga K "VERTICAL"))
  f_abs : mg "abs" = none
  f_all : mg "all" = none
  f_len : mg "len" = none
  f_list : mg "list" = none
  f_max : mg "max" = none
  f_min : mg "min" = none
  f_ord : mg "ord" = none
  f_range : mg "range" = none
  f_sorted : mg "sorted" = none
  x_CaretError : ExK K mg "CaretError"
  x_BadText : ExK K mg "BadText"
  x_BadSize : ExK K mg "BadSize"
  x_BadPlace : ExK K mg "BadPlace"
  x_BadMove : ExK K mg "BadMove"
section
variable {P : Program} {w : World} {K : PySem.W.Frag} {mg : Str → Option Value} {base : Heap}
theorem ok__wall (TT : Txt K mg) (DD : ∃ fd, FunD K "_wall" "_wall" (defArgs s__wall) (defBody s__wall) (defScope s__wall) [] [] (He.ga K "_wall") fd) : Fn P w K mg base (L2.CX P w) 1 "_wall" ["k"] sp_none := fn_none DD TT.g__wall (fun _ _ _ _ _ _ us hl => match us, hl with | [_], _ => rfl) (fun _ _ _ _ z => z)

theorem sc_is_text : FnScope ["text", "sign"] ["text"] (defScope s_is_text) := ⟨rfl, rfl, rfl, by decide +kernel, rfl, by decide +kernel, by decide +kernel⟩
theorem ok_is_text (TT : Txt K mg)  (DD : ∃ fd, FunD K "is_text" "is_text" (defArgs s_is_text) (defBody s_is_text) (defScope s_is_text) [] [] (He.ga K "is_text") fd) : Fn P w K mg base CX0 1 "is_text" ["text"] (sp_is_text K) :=
  fn_mk DD TT.g_is_text sc_is_text (fun _ _ _ _ _ _ us hl => match us, hl with | [_], _ => rfl) len_is_text fun fd cdv A outer s H vs Q E hr h => ⟨t_is_text K E,
    (PSs.nox (pss_cons (ps_if (pt_cmpR op_gt (pe_callB call_len (by rfl) TT.f_len (by decide +kernel) (pa_cons (pv 0) pa_nil)) (pe_gi rfl TT.c_MOST_TEXT) (nomark _)) (pss_one (ps_ret pe_bl)) pss_nil)
      (pss_one (ps_ret (pe_callB (cr_all rfl) (by rfl) TT.f_all (by decide +kernel) (pa_cons (pe_lc (own := [("sign", 1)]) (g := (gName 1)) (tt := tYes) (by rfl) sc_is_text.nd (pi_str (pv 0)) (blkOk_by (own := [("sign", 1)]) (N := ["text", "sign"]) (sc := defScope s_is_text) (by decide +kernel)) (fun _ _ _ _ _ => (pg_name (i := 1) sc_is_text.nd rfl (Or.inl rfl))) (fun _ _ _ _ _ => pts_nil) (fun _ _ _ _ _ => (pe_or (pe_and (pe_chain op_le op_lt pe_int (pe_callB call_ord (by rfl) TT.f_ord (by decide +kernel) (pa_cons (pv 1) pa_nil)) pe_int) (pe_one (pe_cmpR op_ne (pe_callB call_ord (by rfl) TT.f_ord (by decide +kernel) (pa_cons (pv 1) pa_nil)) pe_int (nomark _)))) (pe_one (pe_cmpR op_eq (pv 1) pe_str (nomark _)))))) pa_nil)))))),
    pure_is_text h⟩

theorem sc_look_text : FnScope ["text"] ["text"] (defScope s_look_text) := ⟨rfl, rfl, rfl, by decide +kernel, rfl, by decide +kernel, by decide +kernel⟩
theorem ok_look_text (TT : Txt K mg) (F_is_text : Fn P w K mg base CX0 1 "is_text" ["text"] (sp_is_text K)) (DD : ∃ fd, FunD K "look_text" "look_text" (defArgs s_look_text) (defBody s_look_text) (defScope s_look_text) [] [] (He.ga K "look_text") fd) : Fn P w K mg base (L2.CX P w) 2 "look_text" ["text"] (sp_look_text K) :=
  fn_mk DD TT.g_look_text sc_look_text (fun _ _ _ _ _ _ us hl => match us, hl with | [_], _ => rfl) len_look_text fun fd cdv A outer s H vs Q E hr h => ⟨t_look_text K E,
    (pss_one (ps_if (pt_not (pt_val (pc F_is_text hr (by omega) rfl pass0 (pa_cons (pv 0) pa_nil)))) (pss_one (ps_rz rfl (takes_of rfl rfl rfl rfl) TT.x_BadText rfl)) pss_nil)),
    pure_look_text h⟩

theorem sc_look_width : FnScope ["width"] ["width"] (defScope s_look_width) := ⟨rfl, rfl, rfl, by decide +kernel, rfl, by decide +kernel, by decide +kernel⟩
theorem ok_look_width (TT : Txt K mg)  (DD : ∃ fd, FunD K "look_width" "look_width" (defArgs s_look_width) (defBody s_look_width) (defScope s_look_width) [] [] (He.ga K "look_width") fd) : Fn P w K mg base (L2.CX P w) 1 "look_width" ["width"] (sp_look_width K) :=
  fn_mk DD TT.g_look_width sc_look_width (fun _ _ _ _ _ _ us hl => match us, hl with | [_], _ => rfl) len_look_width fun fd cdv A outer s H vs Q E hr h => ⟨t_look_width K E,
    (pss_one (ps_if (pt_not (pt_chain op_le op_le pe_int (pv 0) (pe_gi rfl TT.c_MOST_WIDTH))) (pss_one (ps_rz rfl (takes_of rfl rfl rfl rfl) TT.x_BadSize rfl)) pss_nil)),
    pure_look_width h⟩

theorem sc_wide : FnScope ["text", "sign"] ["text"] (defScope s_wide) := ⟨rfl, rfl, rfl, by decide +kernel, rfl, by decide +kernel, by decide +kernel⟩
theorem ok_wide (TT : Txt K mg)  (DD : ∃ fd, FunD K "wide" "wide" (defArgs s_wide) (defBody s_wide) (defScope s_wide) [] [] (He.ga K "wide") fd) : Fn P w K mg base CX0 1 "wide" ["text"] (sp_wide K) :=
  fn_mk DD TT.g_wide sc_wide (fun _ _ _ _ _ _ us hl => match us, hl with | [_], _ => rfl) len_wide fun fd cdv A outer s H vs Q E hr h => ⟨t_wide K E,
    (PSs.nox (pss_one (ps_ret (pe_op op_add (pe_callB call_len (by rfl) TT.f_len (by decide +kernel) (pa_cons (pv 0) pa_nil)) (pe_callB call_len (by rfl) TT.f_len (by decide +kernel) (pa_cons (pe_lc (own := [("sign", 1)]) (g := (gName 1)) (tt := (tTest (tOp rInSign (tVar 1) (tC (.str "ABCDEFGHIJKLMNOPQRSTUVWXYZ"))))) (by rfl) sc_wide.nd (pi_str (pv 0)) (blkOk_by (own := [("sign", 1)]) (N := ["text", "sign"]) (sc := defScope s_wide) (by decide +kernel)) (fun _ _ _ _ _ => (pg_name (i := 1) sc_wide.nd rfl (Or.inl rfl))) (fun _ _ _ _ _ => (pts_one (pt_cmpR op_in_sign (pv 1) (pe_gs rfl TT.c_GREAT) rfl))) (fun _ _ _ _ _ => (pv 1))) pa_nil)))))),
    pure_wide h⟩

theorem sc_Row_init : FnScope ["self", "start", "end", "is_soft"] ["self", "start", "end", "is_soft"] (defScope s_Row_init) := ⟨rfl, rfl, rfl, by decide +kernel, rfl, by decide +kernel, by decide +kernel⟩
theorem ok_Row_init (TT : Txt K mg)  (DD : ∃ fd, FunD K "__init__" "Row.__init__" (defArgs s_Row_init) (defBody s_Row_init) (defScope s_Row_init) [] [] (He.ma K (He.ga K "Row") "__init__") fd) : Mkr P w K mg base CX0 1 "Row" ["self", "start", "end", "is_soft"] (sp_Row_init K) :=
  ⟨TT.mk_Row, TT.g_Row, fx_mk DD sc_Row_init (fun _ _ _ _ _ _ us hl => match us, hl with | [_, _, _, _], _ => rfl) len_Row_init fun fd cdv A outer s H vs Q E hr h => ⟨t_Row_init K E,
    (PSs.nox (pss_cons (ps_fld (pv 0) (pv 1) (by rfl))
      (pss_cons (ps_fld (pv 0) (pv 2) (by rfl))
      (pss_one (ps_fld (pv 0) (pv 3) (by rfl)))))),
    pure_Row_init h⟩⟩

theorem sc_Row_told : FnScope ["self"] ["self"] (defScope s_Row_told) := ⟨rfl, rfl, rfl, by decide +kernel, rfl, by decide +kernel, by decide +kernel⟩
theorem ok_Row_told (TT : Txt K mg)  (DD : ∃ fd, FunD K "told" "Row.told" (defArgs s_Row_told) (defBody s_Row_told) (defScope s_Row_told) [] [] (He.ma K (He.ga K "Row") "told") fd) : Mt P w K mg base CX0 1 "Row" "told" ["self"] (sp_Row_told K) :=
  ⟨TT.cl_Row, TT.me_Row_told, fx_mk DD sc_Row_told (fun _ _ _ _ _ _ us hl => match us, hl with | [_], _ => rfl) len_Row_told fun fd cdv A outer s H vs Q E hr h => ⟨t_Row_told K E,
    (PSs.nox (pss_one (ps_ret (pe_tup (pa_cons (pe_fld (pv 0) (by rfl)) (pa_cons (pe_fld (pv 0) (by rfl)) (pa_cons (pe_fld (pv 0) (by rfl)) pa_nil))))))),
    pure_Row_told h⟩⟩

theorem sc_fitting : FnScope ["text", "start", "last", "width", "end", "room"] ["text", "start", "last", "width"] (defScope s_fitting) := ⟨rfl, rfl, rfl, by decide +kernel, rfl, by decide +kernel, by decide +kernel⟩
theorem ok_fitting (TT : Txt K mg) (F_wide : Fn P w K mg base CX0 1 "wide" ["text"] (sp_wide K)) (DD : ∃ fd, FunD K "fitting" "fitting" (defArgs s_fitting) (defBody s_fitting) (defScope s_fitting) [] [] (He.ga K "fitting") fd) : Fn P w K mg base CX0 2 "fitting" ["text", "start", "last", "width"] (sp_fitting K) :=
  fn_mk DD TT.g_fitting sc_fitting (fun _ _ _ _ _ _ us hl => match us, hl with | [_, _, _, _], _ => rfl) len_fitting fun fd cdv A outer s H vs Q E hr h => ⟨t_fitting K E,
    (PSs.nox (pss_cons (ps_set (i := 4) sc_fitting.nd rfl (Or.inl rfl) (pv 1))
      (pss_cons (ps_set (i := 5) sc_fitting.nd rfl (Or.inl rfl) (pv 3))
      (pss_cons (ps_while PassesOwn.never (PW.pt (pw_and (pt_cmpR op_lt (pv 4) (pv 2) (nomark _)) (pw_and1 (pt_cmpR op_le (pc F_wide hr (by omega) rfl pass0 (pa_cons (pe_ix ix_str (pv 0) (pv 4) (fun _ _ => rfl)) pa_nil)) (pv 5) (nomark _))))) (pss_cons (ps_set (i := 5) sc_fitting.nd rfl (Or.inl rfl) (pe_op op_sub (pv 5) (pc F_wide hr (by omega) rfl pass0 (pa_cons (pe_ix ix_str (pv 0) (pv 4) (fun _ _ => rfl)) pa_nil))))
      (pss_one (ps_set (i := 4) sc_fitting.nd rfl (Or.inl rfl) (pe_op op_add (pv 4) pe_int)))))
      (pss_one (ps_ret (pv 4))))))),
    pure_fitting h⟩

theorem sc_row_end : FnScope ["text", "start", "last", "width", "end", "cut"] ["text", "start", "last", "width"] (defScope s_row_end) := ⟨rfl, rfl, rfl, by decide +kernel, rfl, by decide +kernel, by decide +kernel⟩
theorem ok_row_end (TT : Txt K mg) (F_fitting : Fn P w K mg base CX0 2 "fitting" ["text", "start", "last", "width"] (sp_fitting K)) (DD : ∃ fd, FunD K "row_end" "row_end" (defArgs s_row_end) (defBody s_row_end) (defScope s_row_end) [] [] (He.ga K "row_end") fd) : Fn P w K mg base CX0 3 "row_end" ["text", "start", "last", "width"] (sp_row_end K) :=
  fn_mk DD TT.g_row_end sc_row_end (fun _ _ _ _ _ _ us hl => match us, hl with | [_, _, _, _], _ => rfl) len_row_end fun fd cdv A outer s H vs Q E hr h => ⟨t_row_end K E,
    (PSs.nox (pss_cons (ps_set (i := 4) sc_row_end.nd rfl (Or.inl rfl) (pc F_fitting hr (by omega) rfl pass0 (pa_cons (pv 0) (pa_cons (pv 1) (pa_cons (pv 2) (pa_cons (pv 3) pa_nil))))))
      (pss_cons (ps_while PassesOwn.never (PW.pt (pw_and (pt_cmpR op_lt (pv 4) (pv 2) (nomark _)) (pw_and1 (pt_cmpR op_eq (pe_ix ix_str (pv 0) (pv 4) (fun _ _ => rfl)) pe_str (nomark _))))) (pss_one (ps_set (i := 4) sc_row_end.nd rfl (Or.inl rfl) (pe_op op_add (pv 4) pe_int))))
      (pss_cons (ps_if (pt_cmpR op_eq (pv 4) (pv 2) (nomark _)) (pss_one (ps_ret (pv 2))) pss_nil)
      (pss_cons (ps_set (i := 5) sc_row_end.nd rfl (Or.inl rfl) (pv 4))
      (pss_cons (ps_while PassesOwn.never (PW.pt (pw_and (pt_cmpR op_gt (pv 5) (pv 1) (nomark _)) (pw_and1 (pt_cmpR op_ne (pe_ix ix_str (pv 0) (pe_op op_sub (pv 5) pe_int) (fun _ _ => rfl)) pe_str (nomark _))))) (pss_one (ps_set (i := 5) sc_row_end.nd rfl (Or.inl rfl) (pe_op op_sub (pv 5) pe_int))))
      (pss_one (ps_ret (pe_ifExp (pt_cmpR op_gt (pv 5) (pv 1) (nomark _)) (pv 5) (pv 4)))))))))),
    pure_row_end h⟩

theorem sc_paragraph_rows : FnScope ["text", "start", "last", "width", "found", "end"] ["text", "start", "last", "width"] (defScope s_paragraph_rows) := ⟨rfl, rfl, rfl, by decide +kernel, rfl, by decide +kernel, by decide +kernel⟩
theorem ok_paragraph_rows (TT : Txt K mg) (F_row_end : Fn P w K mg base CX0 3 "row_end" ["text", "start", "last", "width"] (sp_row_end K)) (F_Row_init : Mkr P w K mg base CX0 1 "Row" ["self", "start", "end", "is_soft"] (sp_Row_init K)) (DD : ∃ fd, FunD K "paragraph_rows" "paragraph_rows" (defArgs s_paragraph_rows) (defBody s_paragraph_rows) (defScope s_paragraph_rows) [] [] (He.ga K "paragraph_rows") fd) : Fn P w K mg base CX0 4 "paragraph_rows" ["text", "start", "last", "width"] (sp_paragraph_rows K) :=
  fn_mk DD TT.g_paragraph_rows sc_paragraph_rows (fun _ _ _ _ _ _ us hl => match us, hl with | [_, _, _, _], _ => rfl) len_paragraph_rows fun fd cdv A outer s H vs Q E hr h => ⟨t_paragraph_rows K E,
    (PSs.nox (pss_cons (ps_set (i := 4) sc_paragraph_rows.nd rfl (Or.inl rfl) (pe_lst pa_nil))
      (pss_cons (ps_set (i := 5) sc_paragraph_rows.nd rfl (Or.inl rfl) (pc F_row_end hr (by omega) rfl pass0 (pa_cons (pv 0) (pa_cons (pv 1) (pa_cons (pv 2) (pa_cons (pv 3) pa_nil))))))
      (pss_cons (ps_while PassesOwn.never (pt_cmpR op_lt (pv 5) (pv 2) (nomark _)) (pss_cons (ps_expr (pe_bm PySem.F.plainAttrs_list PySem.F.slot_list_append PySem.F.type_list_append mt_append (pv 4) (pa_cons (pmk F_Row_init hr (by omega) rfl pass0 (pa_cons (pv 1) (pa_cons (pv 5) (pa_cons pe_bl pa_nil)))) pa_nil)))
      (pss_cons (ps_set (i := 1) sc_paragraph_rows.nd rfl (Or.inl rfl) (pv 5))
      (pss_one (ps_set (i := 5) sc_paragraph_rows.nd rfl (Or.inl rfl) (pc F_row_end hr (by omega) rfl pass0 (pa_cons (pv 0) (pa_cons (pv 1) (pa_cons (pv 2) (pa_cons (pv 3) pa_nil))))))))))
      (pss_cons (ps_expr (pe_bm PySem.F.plainAttrs_list PySem.F.slot_list_append PySem.F.type_list_append mt_append (pv 4) (pa_cons (pmk F_Row_init hr (by omega) rfl pass0 (pa_cons (pv 1) (pa_cons (pv 2) (pa_cons pe_bl pa_nil)))) pa_nil)))
      (pss_one (ps_ret (pv 4)))))))),
    pure_paragraph_rows h⟩

theorem sc_paragraphs : FnScope ["text", "found", "start", "part"] ["text"] (defScope s_paragraphs) := ⟨rfl, rfl, rfl, by decide +kernel, rfl, by decide +kernel, by decide +kernel⟩
theorem ok_paragraphs (TT : Txt K mg)  (DD : ∃ fd, FunD K "paragraphs" "paragraphs" (defArgs s_paragraphs) (defBody s_paragraphs) (defScope s_paragraphs) [] [] (He.ga K "paragraphs") fd) : Fn P w K mg base CX0 1 "paragraphs" ["text"] (sp_paragraphs K) :=
  fn_mk DD TT.g_paragraphs sc_paragraphs (fun _ _ _ _ _ _ us hl => match us, hl with | [_], _ => rfl) len_paragraphs fun fd cdv A outer s H vs Q E hr h => ⟨t_paragraphs K E,
    (PSs.nox (pss_cons (ps_set (i := 1) sc_paragraphs.nd rfl (Or.inl rfl) (pe_lst pa_nil))
      (pss_cons (ps_set (i := 2) sc_paragraphs.nd rfl (Or.inl rfl) pe_int)
      (pss_cons (ps_for PassesOwn.never rfl (pi_list (pe_bm PySem.F.plainAttrs_str PySem.F.slot_str_split PySem.F.type_str_split mt_split (pv 0) (pa_cons pe_str pa_nil))) (pg_name (i := 3) sc_paragraphs.nd rfl (Or.inl rfl)) (pss_cons (ps_expr (pe_bm PySem.F.plainAttrs_list PySem.F.slot_list_append PySem.F.type_list_append mt_append (pv 1) (pa_cons (pe_tup (pa_cons (pv 2) (pa_cons (pe_op op_add (pv 2) (pe_callB call_len (by rfl) TT.f_len (by decide +kernel) (pa_cons (pv 3) pa_nil))) pa_nil))) pa_nil)))
      (pss_one (ps_set (i := 2) sc_paragraphs.nd rfl (Or.inl rfl) (pe_op op_add (pe_op op_add (pv 2) (pe_callB call_len (by rfl) TT.f_len (by decide +kernel) (pa_cons (pv 3) pa_nil))) pe_int)))))
      (pss_one (ps_ret (pv 1))))))),
    pure_paragraphs h⟩

theorem sc_rows_of : FnScope ["text", "width", "found", "start", "last"] ["text", "width"] (defScope s_rows_of) := ⟨rfl, rfl, rfl, by decide +kernel, rfl, by decide +kernel, by decide +kernel⟩
theorem ok_rows_of (TT : Txt K mg) (F_paragraphs : Fn P w K mg base CX0 1 "paragraphs" ["text"] (sp_paragraphs K)) (F_paragraph_rows : Fn P w K mg base CX0 4 "paragraph_rows" ["text", "start", "last", "width"] (sp_paragraph_rows K)) (DD : ∃ fd, FunD K "rows_of" "rows_of" (defArgs s_rows_of) (defBody s_rows_of) (defScope s_rows_of) [] [] (He.ga K "rows_of") fd) : Fn P w K mg base CX0 5 "rows_of" ["text", "width"] (sp_rows_of K) :=
  fn_mk DD TT.g_rows_of sc_rows_of (fun _ _ _ _ _ _ us hl => match us, hl with | [_, _], _ => rfl) len_rows_of fun fd cdv A outer s H vs Q E hr h => ⟨t_rows_of K E,
    (PSs.nox (pss_cons (ps_set (i := 2) sc_rows_of.nd rfl (Or.inl rfl) (pe_lst pa_nil))
      (pss_cons (ps_for PassesOwn.never rfl (pi_list (pc F_paragraphs hr (by omega) rfl pass0 (pa_cons (pv 0) pa_nil))) (pg_tup rfl (pgs_cons (pg_name (i := 3) sc_rows_of.nd rfl (Or.inl rfl)) (pgs_cons (pg_name (i := 4) sc_rows_of.nd rfl (Or.inl rfl)) pgs_nil))) (pss_one (ps_expr (pe_bm PySem.F.plainAttrs_list PySem.F.slot_list_extend PySem.F.type_list_extend mt_extend (pv 2) (pa_cons (pc F_paragraph_rows hr (by omega) rfl pass0 (pa_cons (pv 0) (pa_cons (pv 3) (pa_cons (pv 4) (pa_cons (pv 1) pa_nil))))) pa_nil)))))
      (pss_one (ps_ret (pv 2)))))),
    pure_rows_of h⟩

theorem sc_row_at : FnScope ["rows", "offset", "is_back", "k", "row"] ["rows", "offset", "is_back"] (defScope s_row_at) := ⟨rfl, rfl, rfl, by decide +kernel, rfl, by decide +kernel, by decide +kernel⟩
theorem ok_row_at (TT : Txt K mg)  (DD : ∃ fd, FunD K "row_at" "row_at" (defArgs s_row_at) (defBody s_row_at) (defScope s_row_at) [] [] (He.ga K "row_at") fd) : Fn P w K mg base CX0 1 "row_at" ["rows", "offset", "is_back"] (sp_row_at K) :=
  fn_mk DD TT.g_row_at sc_row_at (fun _ _ _ _ _ _ us hl => match us, hl with | [_, _, _], _ => rfl) len_row_at fun fd cdv A outer s H vs Q E hr h => ⟨t_row_at K E,
    (PSs.nox (pss_cons (ps_for PassesOwn.never rfl (pi_range1 (by rfl) TT.f_range (pa_cons (pe_callB call_len (by rfl) TT.f_len (by decide +kernel) (pa_cons (pv 0) pa_nil)) pa_nil)) (pg_name (i := 3) sc_row_at.nd rfl (Or.inl rfl)) (pss_cons (ps_set (i := 4) sc_row_at.nd rfl (Or.inl rfl) (pe_ix ix_list (pv 0) (pv 3) (fun _ _ => rfl)))
      (pss_one (ps_if (PW.pt (pw_or (pt_cmpR op_lt (pv 1) (pe_fld (pv 4) (by rfl)) (nomark _)) (pw_or1 (PW.pt (pw_and (pt_cmpR op_eq (pv 1) (pe_fld (pv 4) (by rfl)) (nomark _)) (pw_and1 (PW.pt (pw_or (pt_not (pt_val (pe_fld (pv 4) (by rfl)))) (pw_or1 (pt_val (pv 2))))))))))) (pss_one (ps_ret (pv 3))) pss_nil))))
      (pss_one (ps_ret (pe_op op_sub (pe_callB call_len (by rfl) TT.f_len (by decide +kernel) (pa_cons (pv 0) pa_nil)) pe_int))))),
    pure_row_at h⟩

theorem sc_column_of : FnScope ["text", "row", "offset"] ["text", "row", "offset"] (defScope s_column_of) := ⟨rfl, rfl, rfl, by decide +kernel, rfl, by decide +kernel, by decide +kernel⟩
theorem ok_column_of (TT : Txt K mg) (F_wide : Fn P w K mg base CX0 1 "wide" ["text"] (sp_wide K)) (DD : ∃ fd, FunD K "column_of" "column_of" (defArgs s_column_of) (defBody s_column_of) (defScope s_column_of) [] [] (He.ga K "column_of") fd) : Fn P w K mg base CX0 2 "column_of" ["text", "row", "offset"] (sp_column_of K) :=
  fn_mk DD TT.g_column_of sc_column_of (fun _ _ _ _ _ _ us hl => match us, hl with | [_, _, _], _ => rfl) len_column_of fun fd cdv A outer s H vs Q E hr h => ⟨t_column_of K E,
    (PSs.nox (pss_one (ps_ret (pc F_wide hr (by omega) rfl pass0 (pa_cons (pe_slice sl_str (pv 0) (po_some (pe_fld (pv 1) (by rfl))) (po_some (pv 2))) pa_nil))))),
    pure_column_of h⟩

theorem sc_offset_at : FnScope ["text", "row", "column", "found", "offset"] ["text", "row", "column"] (defScope s_offset_at) := ⟨rfl, rfl, rfl, by decide +kernel, rfl, by decide +kernel, by decide +kernel⟩
theorem ok_offset_at (TT : Txt K mg) (F_column_of : Fn P w K mg base CX0 2 "column_of" ["text", "row", "offset"] (sp_column_of K)) (DD : ∃ fd, FunD K "offset_at" "offset_at" (defArgs s_offset_at) (defBody s_offset_at) (defScope s_offset_at) [] [] (He.ga K "offset_at") fd) : Fn P w K mg base CX0 3 "offset_at" ["text", "row", "column"] (sp_offset_at K) :=
  fn_mk DD TT.g_offset_at sc_offset_at (fun _ _ _ _ _ _ us hl => match us, hl with | [_, _, _], _ => rfl) len_offset_at fun fd cdv A outer s H vs Q E hr h => ⟨t_offset_at K E,
    (PSs.nox (pss_cons (ps_set (i := 3) sc_offset_at.nd rfl (Or.inl rfl) (pe_fld (pv 1) (by rfl)))
      (pss_cons (ps_for PassesOwn.never rfl (pi_range2 (by rfl) TT.f_range (pa_cons (pe_fld (pv 1) (by rfl)) (pa_cons (pe_op op_add (pe_fld (pv 1) (by rfl)) pe_int) pa_nil))) (pg_name (i := 4) sc_offset_at.nd rfl (Or.inl rfl)) (pss_one (ps_if (pt_cmpR op_lt (pe_callB call_abs (by rfl) TT.f_abs (by decide +kernel) (pa_cons (pe_op op_sub (pc F_column_of hr (by omega) rfl pass0 (pa_cons (pv 0) (pa_cons (pv 1) (pa_cons (pv 4) pa_nil)))) (pv 2)) pa_nil)) (pe_callB call_abs (by rfl) TT.f_abs (by decide +kernel) (pa_cons (pe_op op_sub (pc F_column_of hr (by omega) rfl pass0 (pa_cons (pv 0) (pa_cons (pv 1) (pa_cons (pv 3) pa_nil)))) (pv 2)) pa_nil)) (nomark _)) (pss_one (ps_set (i := 3) sc_offset_at.nd rfl (Or.inl rfl) (pv 4))) pss_nil)))
      (pss_one (ps_ret (pv 3)))))),
    pure_offset_at h⟩

theorem sc_look_offset : FnScope ["text", "offset"] ["text", "offset"] (defScope s_look_offset) := ⟨rfl, rfl, rfl, by decide +kernel, rfl, by decide +kernel, by decide +kernel⟩
theorem ok_look_offset (TT : Txt K mg)  (DD : ∃ fd, FunD K "look_offset" "look_offset" (defArgs s_look_offset) (defBody s_look_offset) (defScope s_look_offset) [] [] (He.ga K "look_offset") fd) : Fn P w K mg base (L2.CX P w) 1 "look_offset" ["text", "offset"] (sp_look_offset K) :=
  fn_mk DD TT.g_look_offset sc_look_offset (fun _ _ _ _ _ _ us hl => match us, hl with | [_, _], _ => rfl) len_look_offset fun fd cdv A outer s H vs Q E hr h => ⟨t_look_offset K E,
    (pss_one (ps_if (pt_not (pt_chain op_le op_le pe_int (pv 1) (pe_callB call_len (by rfl) TT.f_len (by decide +kernel) (pa_cons (pv 0) pa_nil)))) (pss_one (ps_rz rfl (takes_of rfl rfl rfl rfl) TT.x_BadPlace rfl)) pss_nil)),
    pure_look_offset h⟩

theorem sc_is_soft_end : FnScope ["rows", "number", "offset", "row"] ["rows", "number", "offset"] (defScope s_is_soft_end) := ⟨rfl, rfl, rfl, by decide +kernel, rfl, by decide +kernel, by decide +kernel⟩
theorem ok_is_soft_end (TT : Txt K mg)  (DD : ∃ fd, FunD K "is_soft_end" "is_soft_end" (defArgs s_is_soft_end) (defBody s_is_soft_end) (defScope s_is_soft_end) [] [] (He.ga K "is_soft_end") fd) : Fn P w K mg base CX0 1 "is_soft_end" ["rows", "number", "offset"] (sp_is_soft_end K) :=
  fn_mk DD TT.g_is_soft_end sc_is_soft_end (fun _ _ _ _ _ _ us hl => match us, hl with | [_, _, _], _ => rfl) len_is_soft_end fun fd cdv A outer s H vs Q E hr h => ⟨t_is_soft_end K E,
    (PSs.nox (pss_cons (ps_set (i := 3) sc_is_soft_end.nd rfl (Or.inl rfl) (pe_ix ix_list (pv 0) (pv 1) (fun _ _ => rfl)))
      (pss_one (ps_ret (pe_and (pe_fld (pv 3) (by rfl)) (pe_one (pe_cmpR op_eq (pv 2) (pe_fld (pv 3) (by rfl)) (nomark _)))))))),
    pure_is_soft_end h⟩

theorem sc_Sheet_init : FnScope ["self", "text", "width", "height"] ["self", "text", "width", "height"] (defScope s_Sheet_init) := ⟨rfl, rfl, rfl, by decide +kernel, rfl, by decide +kernel, by decide +kernel⟩
theorem ok_Sheet_init (TT : Txt K mg) (F_look_text : Fn P w K mg base (L2.CX P w) 2 "look_text" ["text"] (sp_look_text K)) (F_look_width : Fn P w K mg base (L2.CX P w) 1 "look_width" ["width"] (sp_look_width K)) (DD : ∃ fd, FunD K "__init__" "Sheet.__init__" (defArgs s_Sheet_init) (defBody s_Sheet_init) (defScope s_Sheet_init) [] [] (He.ma K (He.ga K "Sheet") "__init__") fd) : Mkr P w K mg base (L2.CX P w) 3 "Sheet" ["self", "text", "width", "height"] (sp_Sheet_init K) :=
  ⟨TT.mk_Sheet, TT.g_Sheet, fx_mk DD sc_Sheet_init (fun _ _ _ _ _ _ us hl => match us, hl with | [_, _, _, _], _ => rfl) len_Sheet_init fun fd cdv A outer s H vs Q E hr h => ⟨t_Sheet_init K E,
    (pss_cons (ps_expr (pc F_look_text hr (by omega) rfl (passG (takes_of rfl rfl rfl rfl)) (pa_cons (pv 1) pa_nil)))
      (pss_cons (ps_expr (pc F_look_width hr (by omega) rfl (passG (takes_of rfl rfl rfl rfl)) (pa_cons (pv 2) pa_nil)))
      (pss_cons (ps_if (pt_not (pt_chain op_le op_le pe_int (pv 3) (pe_gi rfl TT.c_MOST_HEIGHT))) (pss_one (ps_rz rfl (takes_of rfl rfl rfl rfl) TT.x_BadSize rfl)) pss_nil)
      (pss_cons (ps_fld (pv 0) (pv 1) (by rfl))
      (pss_cons (ps_fld (pv 0) (pv 2) (by rfl))
      (pss_cons (ps_fld (pv 0) (pv 3) (by rfl))
      (pss_cons (ps_fld (pv 0) pe_int (by rfl))
      (pss_cons (ps_fld (pv 0) pe_bl (by rfl))
      (pss_cons (ps_fld (pv 0) pe_int (by rfl))
      (pss_cons (ps_fld (pv 0) pe_non (by rfl))
      (pss_cons (ps_fld (pv 0) pe_int (by rfl))
      (pss_one (ps_fld (pv 0) pe_dnewK (by rfl)))))))))))))),
    pure_Sheet_init h⟩⟩

theorem sc_Sheet_text : FnScope ["self"] ["self"] (defScope s_Sheet_text) := ⟨rfl, rfl, rfl, by decide +kernel, rfl, by decide +kernel, by decide +kernel⟩
theorem ok_Sheet_text (TT : Txt K mg)  (DD : ∃ fd, FunD K "text" "Sheet.text" (defArgs s_Sheet_text) (defBody s_Sheet_text) (defScope s_Sheet_text) [] [] (He.ma K (He.ga K "Sheet") "text") fd) : Mt P w K mg base CX0 1 "Sheet" "text" ["self"] (sp_Sheet_text K) :=
  ⟨TT.cl_Sheet, TT.me_Sheet_text, fx_mk DD sc_Sheet_text (fun _ _ _ _ _ _ us hl => match us, hl with | [_], _ => rfl) len_Sheet_text fun fd cdv A outer s H vs Q E hr h => ⟨t_Sheet_text K E,
    (PSs.nox (pss_one (ps_ret (pe_fld (pv 0) (by rfl))))),
    pure_Sheet_text h⟩⟩

theorem sc_Sheet_rows : FnScope ["self"] ["self"] (defScope s_Sheet_rows) := ⟨rfl, rfl, rfl, by decide +kernel, rfl, by decide +kernel, by decide +kernel⟩
theorem ok_Sheet_rows (TT : Txt K mg) (F_rows_of : Fn P w K mg base CX0 5 "rows_of" ["text", "width"] (sp_rows_of K)) (DD : ∃ fd, FunD K "rows" "Sheet.rows" (defArgs s_Sheet_rows) (defBody s_Sheet_rows) (defScope s_Sheet_rows) [] [] (He.ma K (He.ga K "Sheet") "rows") fd) : Mt P w K mg base CX0 6 "Sheet" "rows" ["self"] (sp_Sheet_rows K) :=
  ⟨TT.cl_Sheet, TT.me_Sheet_rows, fx_mk DD sc_Sheet_rows (fun _ _ _ _ _ _ us hl => match us, hl with | [_], _ => rfl) len_Sheet_rows fun fd cdv A outer s H vs Q E hr h => ⟨t_Sheet_rows K E,
    (PSs.nox (pss_one (ps_ret (pc F_rows_of hr (by omega) rfl pass0 (pa_cons (pe_fld (pv 0) (by rfl)) (pa_cons (pe_fld (pv 0) (by rfl)) pa_nil)))))),
    pure_Sheet_rows h⟩⟩

theorem sc_Sheet_at : FnScope ["self", "rows", "number"] ["self"] (defScope s_Sheet_at) := ⟨rfl, rfl, rfl, by decide +kernel, rfl, by decide +kernel, by decide +kernel⟩
theorem ok_Sheet_at (TT : Txt K mg) (F_Sheet_rows : Mt P w K mg base CX0 6 "Sheet" "rows" ["self"] (sp_Sheet_rows K)) (F_row_at : Fn P w K mg base CX0 1 "row_at" ["rows", "offset", "is_back"] (sp_row_at K)) (F_column_of : Fn P w K mg base CX0 2 "column_of" ["text", "row", "offset"] (sp_column_of K)) (DD : ∃ fd, FunD K "at" "Sheet.at" (defArgs s_Sheet_at) (defBody s_Sheet_at) (defScope s_Sheet_at) [] [] (He.ma K (He.ga K "Sheet") "at") fd) : Mt P w K mg base CX0 7 "Sheet" "at" ["self"] (sp_Sheet_at K) :=
  ⟨TT.cl_Sheet, TT.me_Sheet_at, fx_mk DD sc_Sheet_at (fun _ _ _ _ _ _ us hl => match us, hl with | [_], _ => rfl) len_Sheet_at fun fd cdv A outer s H vs Q E hr h => ⟨t_Sheet_at K E,
    (PSs.nox (pss_cons (ps_set (i := 1) sc_Sheet_at.nd rfl (Or.inl rfl) (pm0 F_Sheet_rows hr (by omega) pass0 (pv 0)))
      (pss_cons (ps_set (i := 2) sc_Sheet_at.nd rfl (Or.inl rfl) (pc F_row_at hr (by omega) rfl pass0 (pa_cons (pv 1) (pa_cons (pe_fld (pv 0) (by rfl)) (pa_cons (pe_fld (pv 0) (by rfl)) pa_nil)))))
      (pss_one (ps_ret (pe_tup (pa_cons (pe_fld (pv 0) (by rfl)) (pa_cons (pv 2) (pa_cons (pc F_column_of hr (by omega) rfl pass0 (pa_cons (pe_fld (pv 0) (by rfl)) (pa_cons (pe_ix ix_list (pv 1) (pv 2) (fun _ _ => rfl)) (pa_cons (pe_fld (pv 0) (by rfl)) pa_nil)))) pa_nil))))))))),
    pure_Sheet_at h⟩⟩

theorem sc_Sheet_chosen : FnScope ["self"] ["self"] (defScope s_Sheet_chosen) := ⟨rfl, rfl, rfl, by decide +kernel, rfl, by decide +kernel, by decide +kernel⟩
theorem ok_Sheet_chosen (TT : Txt K mg)  (DD : ∃ fd, FunD K "chosen" "Sheet.chosen" (defArgs s_Sheet_chosen) (defBody s_Sheet_chosen) (defScope s_Sheet_chosen) [] [] (He.ma K (He.ga K "Sheet") "chosen") fd) : Mt P w K mg base CX0 1 "Sheet" "chosen" ["self"] (sp_Sheet_chosen K) :=
  ⟨TT.cl_Sheet, TT.me_Sheet_chosen, fx_mk DD sc_Sheet_chosen (fun _ _ _ _ _ _ us hl => match us, hl with | [_], _ => rfl) len_Sheet_chosen fun fd cdv A outer s H vs Q E hr h => ⟨t_Sheet_chosen K E,
    (PSs.nox (pss_one (ps_ret (pe_tup (pa_cons (pe_callB (call_min2 rfl) (by rfl) TT.f_min (by decide +kernel) (pa_cons (pe_fld (pv 0) (by rfl)) (pa_cons (pe_fld (pv 0) (by rfl)) pa_nil))) (pa_cons (pe_callB (call_max2 rfl) (by rfl) TT.f_max (by decide +kernel) (pa_cons (pe_fld (pv 0) (by rfl)) (pa_cons (pe_fld (pv 0) (by rfl)) pa_nil))) pa_nil)))))),
    pure_Sheet_chosen h⟩⟩

theorem ok_Sheet_chosen_text (TT : Txt K mg) (DD : ∃ fd, FunD K "chosen_text" "Sheet.chosen_text" (defArgs s_Sheet_chosen_text) (defBody s_Sheet_chosen_text) (defScope s_Sheet_chosen_text) [] [] (He.ma K (He.ga K "Sheet") "chosen_text") fd) : Mt P w K mg base CX0 1 "Sheet" "chosen_text" ["self"] sp_none := mt_none TT.cl_Sheet TT.me_Sheet_chosen_text DD (fun _ _ _ _ _ _ us hl => match us, hl with | [_], _ => rfl) (fun _ _ _ _ z => z)

theorem sc_Sheet_put : FnScope ["self", "offset", "is_back", "is_choosing", "rows", "number"] ["self", "offset", "is_back", "is_choosing"] (defScope s_Sheet_put) := ⟨rfl, rfl, rfl, by decide +kernel, rfl, by decide +kernel, by decide +kernel⟩
theorem ok_Sheet_put (TT : Txt K mg) (F_Sheet_rows : Mt P w K mg base CX0 6 "Sheet" "rows" ["self"] (sp_Sheet_rows K)) (F_row_at : Fn P w K mg base CX0 1 "row_at" ["rows", "offset", "is_back"] (sp_row_at K)) (F_is_soft_end : Fn P w K mg base CX0 1 "is_soft_end" ["rows", "number", "offset"] (sp_is_soft_end K)) (F_Sheet_scroll : Mt P w K mg base CX0 7 "Sheet" "scroll" ["self"] (sp_Sheet_scroll K)) (DD : ∃ fd, FunD K "put" "Sheet.put" (defArgs s_Sheet_put) (defBody s_Sheet_put) (defScope s_Sheet_put) [] [] (He.ma K (He.ga K "Sheet") "put") fd) : Mt P w K mg base CX0 8 "Sheet" "put" ["self", "offset", "is_back", "is_choosing"] (sp_Sheet_put K) :=
  ⟨TT.cl_Sheet, TT.me_Sheet_put, fx_mk DD sc_Sheet_put (fun _ _ _ _ _ _ us hl => match us, hl with | [_, _, _, _], _ => rfl) len_Sheet_put fun fd cdv A outer s H vs Q E hr h => ⟨t_Sheet_put K E,
    (PSs.nox (pss_cons (ps_fld (pv 0) (pv 1) (by rfl))
      (pss_cons (ps_set (i := 4) sc_Sheet_put.nd rfl (Or.inl rfl) (pm0 F_Sheet_rows hr (by omega) pass0 (pv 0)))
      (pss_cons (ps_set (i := 5) sc_Sheet_put.nd rfl (Or.inl rfl) (pc F_row_at hr (by omega) rfl pass0 (pa_cons (pv 4) (pa_cons (pv 1) (pa_cons pe_bl pa_nil)))))
      (pss_cons (ps_fld (pv 0) (pe_and (pv 2) (pe_one (pc F_is_soft_end hr (by omega) rfl pass0 (pa_cons (pv 4) (pa_cons (pv 5) (pa_cons (pv 1) pa_nil)))))) (by rfl))
      (pss_cons (ps_if (pt_not (pt_val (pv 3))) (pss_one (ps_fld (pv 0) (pv 1) (by rfl))) pss_nil)
      (pss_one (ps_expr (pm0 F_Sheet_scroll hr (by omega) pass0 (pv 0)))))))))),
    pure_Sheet_put h⟩⟩

theorem sc_Sheet_scroll : FnScope ["self", "rows", "number"] ["self"] (defScope s_Sheet_scroll) := ⟨rfl, rfl, rfl, by decide +kernel, rfl, by decide +kernel, by decide +kernel⟩
theorem ok_Sheet_scroll (TT : Txt K mg) (F_Sheet_rows : Mt P w K mg base CX0 6 "Sheet" "rows" ["self"] (sp_Sheet_rows K)) (F_row_at : Fn P w K mg base CX0 1 "row_at" ["rows", "offset", "is_back"] (sp_row_at K)) (DD : ∃ fd, FunD K "scroll" "Sheet.scroll" (defArgs s_Sheet_scroll) (defBody s_Sheet_scroll) (defScope s_Sheet_scroll) [] [] (He.ma K (He.ga K "Sheet") "scroll") fd) : Mt P w K mg base CX0 7 "Sheet" "scroll" ["self"] (sp_Sheet_scroll K) :=
  ⟨TT.cl_Sheet, TT.me_Sheet_scroll, fx_mk DD sc_Sheet_scroll (fun _ _ _ _ _ _ us hl => match us, hl with | [_], _ => rfl) len_Sheet_scroll fun fd cdv A outer s H vs Q E hr h => ⟨t_Sheet_scroll K E,
    (PSs.nox (pss_cons (ps_set (i := 1) sc_Sheet_scroll.nd rfl (Or.inl rfl) (pm0 F_Sheet_rows hr (by omega) pass0 (pv 0)))
      (pss_cons (ps_set (i := 2) sc_Sheet_scroll.nd rfl (Or.inl rfl) (pc F_row_at hr (by omega) rfl pass0 (pa_cons (pv 1) (pa_cons (pe_fld (pv 0) (by rfl)) (pa_cons (pe_fld (pv 0) (by rfl)) pa_nil)))))
      (pss_cons (ps_fld (pv 0) (pe_callB (call_max2 rfl) (by rfl) TT.f_max (by decide +kernel) (pa_cons pe_int (pa_cons (pe_callB (call_min2 rfl) (by rfl) TT.f_min (by decide +kernel) (pa_cons (pe_fld (pv 0) (by rfl)) (pa_cons (pe_op op_sub (pe_callB call_len (by rfl) TT.f_len (by decide +kernel) (pa_cons (pv 1) pa_nil)) pe_int) pa_nil))) pa_nil))) (by rfl))
      (pss_cons (ps_if (pt_cmpR op_lt (pv 2) (pe_fld (pv 0) (by rfl)) (nomark _)) (pss_one (ps_fld (pv 0) (pv 2) (by rfl))) pss_nil)
      (pss_one (ps_if (pt_cmpR op_ge (pv 2) (pe_op op_add (pe_fld (pv 0) (by rfl)) (pe_fld (pv 0) (by rfl))) (nomark _)) (pss_one (ps_fld (pv 0) (pe_op op_add (pe_op op_sub (pv 2) (pe_fld (pv 0) (by rfl))) pe_int) (by rfl))) pss_nil))))))),
    pure_Sheet_scroll h⟩⟩

theorem sc_Sheet_go : FnScope ["self", "offset"] ["self", "offset"] (defScope s_Sheet_go) := ⟨rfl, rfl, rfl, by decide +kernel, rfl, by decide +kernel, by decide +kernel⟩
theorem ok_Sheet_go (TT : Txt K mg) (F_look_offset : Fn P w K mg base (L2.CX P w) 1 "look_offset" ["text", "offset"] (sp_look_offset K)) (F_Sheet_put : Mt P w K mg base CX0 8 "Sheet" "put" ["self", "offset", "is_back", "is_choosing"] (sp_Sheet_put K)) (DD : ∃ fd, FunD K "go" "Sheet.go" (defArgs s_Sheet_go) (defBody s_Sheet_go) (defScope s_Sheet_go) [] [] (He.ma K (He.ga K "Sheet") "go") fd) : Mt P w K mg base (L2.CX P w) 9 "Sheet" "go" ["self", "offset"] (sp_Sheet_go K) :=
  ⟨TT.cl_Sheet, TT.me_Sheet_go, fx_mk DD sc_Sheet_go (fun _ _ _ _ _ _ us hl => match us, hl with | [_, _], _ => rfl) len_Sheet_go fun fd cdv A outer s H vs Q E hr h => ⟨t_Sheet_go K E,
    (pss_cons (ps_expr (pc F_look_offset hr (by omega) rfl (passG (takes_of rfl rfl rfl rfl)) (pa_cons (pe_fld (pv 0) (by rfl)) (pa_cons (pv 1) pa_nil))))
      (pss_cons (ps_fld (pv 0) pe_non (by rfl))
      (pss_one (ps_expr (pm1 F_Sheet_put hr (by omega) pass0 (pv 0) (pa_cons (pv 1) (pa_cons pe_bl (pa_cons pe_bl pa_nil)))))))),
    pure_Sheet_go h⟩⟩

theorem ok_Sheet_choose (TT : Txt K mg) (DD : ∃ fd, FunD K "choose" "Sheet.choose" (defArgs s_Sheet_choose) (defBody s_Sheet_choose) (defScope s_Sheet_choose) [] [] (He.ma K (He.ga K "Sheet") "choose") fd) : Mt P w K mg base (L2.CX P w) 1 "Sheet" "choose" ["self", "first", "last"] sp_none := mt_none TT.cl_Sheet TT.me_Sheet_choose DD (fun _ _ _ _ _ _ us hl => match us, hl with | [_, _, _], _ => rfl) (fun _ _ _ _ z => z)

theorem ok_Sheet_point (TT : Txt K mg) (DD : ∃ fd, FunD K "point" "Sheet.point" (defArgs s_Sheet_point) (defBody s_Sheet_point) (defScope s_Sheet_point) [] [] (He.ma K (He.ga K "Sheet") "point") fd) : Mt P w K mg base (L2.CX P w) 1 "Sheet" "point" ["self", "row", "column", "is_choosing"] sp_none := mt_none TT.cl_Sheet TT.me_Sheet_point DD (fun _ _ _ _ _ _ us hl => match us, hl with | [_, _, _, _], _ => rfl) (fun _ _ _ _ z => z)

theorem sc_Sheet_is_letter : FnScope ["self", "offset"] ["self", "offset"] (defScope s_Sheet_is_letter) := ⟨rfl, rfl, rfl, by decide +kernel, rfl, by decide +kernel, by decide +kernel⟩
theorem ok_Sheet_is_letter (TT : Txt K mg)  (DD : ∃ fd, FunD K "is_letter" "Sheet.is_letter" (defArgs s_Sheet_is_letter) (defBody s_Sheet_is_letter) (defScope s_Sheet_is_letter) [] [] (He.ma K (He.ga K "Sheet") "is_letter") fd) : Mt P w K mg base CX0 1 "Sheet" "is_letter" ["self", "offset"] (sp_Sheet_is_letter K) :=
  ⟨TT.cl_Sheet, TT.me_Sheet_is_letter, fx_mk DD sc_Sheet_is_letter (fun _ _ _ _ _ _ us hl => match us, hl with | [_, _], _ => rfl) len_Sheet_is_letter fun fd cdv A outer s H vs Q E hr h => ⟨t_Sheet_is_letter K E,
    (PSs.nox (pss_one (ps_ret (pe_and (pe_chain op_le op_lt pe_int (pv 1) (pe_callB call_len (by rfl) TT.f_len (by decide +kernel) (pa_cons (pe_fld (pv 0) (by rfl)) pa_nil))) (pe_one (pe_cmpR op_in_sign (pe_ix ix_str (pe_fld (pv 0) (by rfl)) (pv 1) (fun _ _ => rfl)) (pe_gs rfl TT.c_LETTERS) rfl)))))),
    pure_Sheet_is_letter h⟩⟩

theorem sc_Sheet_word_right : FnScope ["self", "offset"] ["self", "offset"] (defScope s_Sheet_word_right) := ⟨rfl, rfl, rfl, by decide +kernel, rfl, by decide +kernel, by decide +kernel⟩
theorem ok_Sheet_word_right (TT : Txt K mg) (F_Sheet_is_letter : Mt P w K mg base CX0 1 "Sheet" "is_letter" ["self", "offset"] (sp_Sheet_is_letter K)) (DD : ∃ fd, FunD K "word_right" "Sheet.word_right" (defArgs s_Sheet_word_right) (defBody s_Sheet_word_right) (defScope s_Sheet_word_right) [] [] (He.ma K (He.ga K "Sheet") "word_right") fd) : Mt P w K mg base CX0 2 "Sheet" "word_right" ["self", "offset"] (sp_Sheet_word_right K) :=
  ⟨TT.cl_Sheet, TT.me_Sheet_word_right, fx_mk DD sc_Sheet_word_right (fun _ _ _ _ _ _ us hl => match us, hl with | [_, _], _ => rfl) len_Sheet_word_right fun fd cdv A outer s H vs Q E hr h => ⟨t_Sheet_word_right K E,
    (PSs.nox (pss_cons (ps_while PassesOwn.never (PW.pt (pw_and (pt_cmpR op_lt (pv 1) (pe_callB call_len (by rfl) TT.f_len (by decide +kernel) (pa_cons (pe_fld (pv 0) (by rfl)) pa_nil)) (nomark _)) (pw_and1 (pt_not (pt_val (pm1 F_Sheet_is_letter hr (by omega) pass0 (pv 0) (pa_cons (pv 1) pa_nil))))))) (pss_one (ps_set (i := 1) sc_Sheet_word_right.nd rfl (Or.inl rfl) (pe_op op_add (pv 1) pe_int))))
      (pss_cons (ps_while PassesOwn.never (pt_val (pm1 F_Sheet_is_letter hr (by omega) pass0 (pv 0) (pa_cons (pv 1) pa_nil))) (pss_one (ps_set (i := 1) sc_Sheet_word_right.nd rfl (Or.inl rfl) (pe_op op_add (pv 1) pe_int))))
      (pss_one (ps_ret (pv 1)))))),
    pure_Sheet_word_right h⟩⟩

theorem sc_Sheet_word_left : FnScope ["self", "offset"] ["self", "offset"] (defScope s_Sheet_word_left) := ⟨rfl, rfl, rfl, by decide +kernel, rfl, by decide +kernel, by decide +kernel⟩
theorem ok_Sheet_word_left (TT : Txt K mg) (F_Sheet_is_letter : Mt P w K mg base CX0 1 "Sheet" "is_letter" ["self", "offset"] (sp_Sheet_is_letter K)) (DD : ∃ fd, FunD K "word_left" "Sheet.word_left" (defArgs s_Sheet_word_left) (defBody s_Sheet_word_left) (defScope s_Sheet_word_left) [] [] (He.ma K (He.ga K "Sheet") "word_left") fd) : Mt P w K mg base CX0 2 "Sheet" "word_left" ["self", "offset"] (sp_Sheet_word_left K) :=
  ⟨TT.cl_Sheet, TT.me_Sheet_word_left, fx_mk DD sc_Sheet_word_left (fun _ _ _ _ _ _ us hl => match us, hl with | [_, _], _ => rfl) len_Sheet_word_left fun fd cdv A outer s H vs Q E hr h => ⟨t_Sheet_word_left K E,
    (PSs.nox (pss_cons (ps_while PassesOwn.never (PW.pt (pw_and (pt_cmpR op_gt (pv 1) pe_int (nomark _)) (pw_and1 (pt_not (pt_val (pm1 F_Sheet_is_letter hr (by omega) pass0 (pv 0) (pa_cons (pe_op op_sub (pv 1) pe_int) pa_nil))))))) (pss_one (ps_set (i := 1) sc_Sheet_word_left.nd rfl (Or.inl rfl) (pe_op op_sub (pv 1) pe_int))))
      (pss_cons (ps_while PassesOwn.never (pt_val (pm1 F_Sheet_is_letter hr (by omega) pass0 (pv 0) (pa_cons (pe_op op_sub (pv 1) pe_int) pa_nil))) (pss_one (ps_set (i := 1) sc_Sheet_word_left.nd rfl (Or.inl rfl) (pe_op op_sub (pv 1) pe_int))))
      (pss_one (ps_ret (pv 1)))))),
    pure_Sheet_word_left h⟩⟩

theorem sc_Sheet_flat_goal : FnScope ["self", "move", "end"] ["self", "move"] (defScope s_Sheet_flat_goal) := ⟨rfl, rfl, rfl, by decide +kernel, rfl, by decide +kernel, by decide +kernel⟩
theorem ok_Sheet_flat_goal (TT : Txt K mg) (F_Sheet_word_left : Mt P w K mg base CX0 2 "Sheet" "word_left" ["self", "offset"] (sp_Sheet_word_left K)) (F_Sheet_word_right : Mt P w K mg base CX0 2 "Sheet" "word_right" ["self", "offset"] (sp_Sheet_word_right K)) (DD : ∃ fd, FunD K "flat_goal" "Sheet.flat_goal" (defArgs s_Sheet_flat_goal) (defBody s_Sheet_flat_goal) (defScope s_Sheet_flat_goal) [] [] (He.ma K (He.ga K "Sheet") "flat_goal") fd) : Mt P w K mg base CX0 3 "Sheet" "flat_goal" ["self", "move"] (sp_Sheet_flat_goal K) :=
  ⟨TT.cl_Sheet, TT.me_Sheet_flat_goal, fx_mk DD sc_Sheet_flat_goal (fun _ _ _ _ _ _ us hl => match us, hl with | [_, _], _ => rfl) len_Sheet_flat_goal fun fd cdv A outer s H vs Q E hr h => ⟨t_Sheet_flat_goal K E,
    (PSs.nox (pss_cons (ps_if (pt_cmpR op_eq (pv 1) pe_str (nomark _)) (pss_one (ps_ret (pe_callB (call_max2 rfl) (by rfl) TT.f_max (by decide +kernel) (pa_cons pe_int (pa_cons (pe_op op_sub (pe_fld (pv 0) (by rfl)) pe_int) pa_nil))))) pss_nil)
      (pss_cons (ps_if (pt_cmpR op_eq (pv 1) pe_str (nomark _)) (pss_one (ps_ret (pe_callB (call_min2 rfl) (by rfl) TT.f_min (by decide +kernel) (pa_cons (pe_callB call_len (by rfl) TT.f_len (by decide +kernel) (pa_cons (pe_fld (pv 0) (by rfl)) pa_nil)) (pa_cons (pe_op op_add (pe_fld (pv 0) (by rfl)) pe_int) pa_nil))))) pss_nil)
      (pss_cons (ps_if (pt_cmpR op_in_seq (pv 1) (pe_tup (pa_cons pe_str (pa_cons pe_str pa_nil))) rfl) (pss_one (ps_ret (pe_ifExp (pt_cmpR op_eq (pv 1) pe_str (nomark _)) (pm1 F_Sheet_word_left hr (by omega) pass0 (pv 0) (pa_cons (pe_fld (pv 0) (by rfl)) pa_nil)) (pm1 F_Sheet_word_right hr (by omega) pass0 (pv 0) (pa_cons (pe_fld (pv 0) (by rfl)) pa_nil))))) pss_nil)
      (pss_cons (ps_if (pt_cmpR op_in_seq (pv 1) (pe_tup (pa_cons pe_str (pa_cons pe_str pa_nil))) rfl) (pss_one (ps_ret (pe_ifExp (pt_cmpR op_eq (pv 1) pe_str (nomark _)) pe_int (pe_callB call_len (by rfl) TT.f_len (by decide +kernel) (pa_cons (pe_fld (pv 0) (by rfl)) pa_nil))))) pss_nil)
      (pss_cons (ps_if (pt_cmpR op_eq (pv 1) pe_str (nomark _)) (pss_one (ps_ret (pe_op op_add (pe_bm PySem.F.plainAttrs_str PySem.F.slot_str_rfind PySem.F.type_str_rfind mt_rfind4 (pe_fld (pv 0) (by rfl)) (pa_cons pe_str (pa_cons pe_int (pa_cons (pe_callB (call_max2 rfl) (by rfl) TT.f_max (by decide +kernel) (pa_cons pe_int (pa_cons (pe_op op_sub (pe_fld (pv 0) (by rfl)) pe_int) pa_nil))) pa_nil)))) pe_int))) pss_nil)
      (pss_cons (ps_set (i := 2) sc_Sheet_flat_goal.nd rfl (Or.inl rfl) (pe_bm PySem.F.plainAttrs_str PySem.F.slot_str_find PySem.F.type_str_find mt_find3 (pe_fld (pv 0) (by rfl)) (pa_cons pe_str (pa_cons (pe_op op_add (pe_fld (pv 0) (by rfl)) pe_int) pa_nil))))
      (pss_one (ps_ret (pe_ifExp (pt_cmpR op_eq (pv 2) (pe_un un_neg pe_int) (nomark _)) (pe_callB call_len (by rfl) TT.f_len (by decide +kernel) (pa_cons (pe_fld (pv 0) (by rfl)) pa_nil)) (pv 2))))))))))),
    pure_Sheet_flat_goal h⟩⟩

theorem sc_Sheet_move : FnScope ["self", "move", "is_choosing", "first", "last", "rows", "row"] ["self", "move", "is_choosing"] (defScope s_Sheet_move) := ⟨rfl, rfl, rfl, by decide +kernel, rfl, by decide +kernel, by decide +kernel⟩
theorem ok_Sheet_move (TT : Txt K mg) (F_Sheet_chosen : Mt P w K mg base CX0 1 "Sheet" "chosen" ["self"] (sp_Sheet_chosen K)) (F_Sheet_move_rows : Mt P w K mg base CX0 9 "Sheet" "move_rows" ["self", "many", "is_choosing"] (sp_Sheet_move_rows K)) (F_Sheet_rows : Mt P w K mg base CX0 6 "Sheet" "rows" ["self"] (sp_Sheet_rows K)) (F_row_at : Fn P w K mg base CX0 1 "row_at" ["rows", "offset", "is_back"] (sp_row_at K)) (F_Sheet_put : Mt P w K mg base CX0 8 "Sheet" "put" ["self", "offset", "is_back", "is_choosing"] (sp_Sheet_put K)) (F_Sheet_flat_goal : Mt P w K mg base CX0 3 "Sheet" "flat_goal" ["self", "move"] (sp_Sheet_flat_goal K)) (DD : ∃ fd, FunD K "move" "Sheet.move" (defArgs s_Sheet_move) (defBody s_Sheet_move) (defScope s_Sheet_move) [] [] (He.ma K (He.ga K "Sheet") "move") fd) : Mt P w K mg base (L2.CX P w) 10 "Sheet" "move" ["self", "move", "is_choosing"] (sp_Sheet_move K) :=
  ⟨TT.cl_Sheet, TT.me_Sheet_move, fx_mk DD sc_Sheet_move (fun _ _ _ _ _ _ us hl => match us, hl with | [_, _, _], _ => rfl) len_Sheet_move fun fd cdv A outer s H vs Q E hr h => ⟨t_Sheet_move K E,
    (pss_cons (ps_if (pt_cmpR op_notIn_seq (pv 1) (pe_glob rfl TT.g_MOVES rfl) rfl) (pss_one (ps_rz rfl (takes_of rfl rfl rfl rfl) TT.x_BadMove rfl)) pss_nil)
      (pss_cons (ps_asg (pm0 F_Sheet_chosen hr (by omega) pass0 (pv 0)) (pg_tup rfl (pgs_cons (pg_name (i := 3) sc_Sheet_move.nd rfl (Or.inl rfl)) (pgs_cons (pg_name (i := 4) sc_Sheet_move.nd rfl (Or.inl rfl)) pgs_nil))))
      (pss_cons (ps_if (pt_cmpR op_in_seq (pv 1) (pe_glob rfl TT.g_VERTICAL rfl) rfl) (pss_cons (ps_expr (pm1 F_Sheet_move_rows hr (by omega) pass0 (pv 0) (pa_cons (pe_dget (un1 hr.units) (pe_disp (pps_cons pe_str (pe_un un_neg pe_int) (pps_cons pe_str pe_int (pps_cons pe_str (pe_op op_sub pe_int (pe_fld (pv 0) (by rfl))) (pps_cons pe_str (pe_fld (pv 0) (by rfl)) pps_nil)))) (by rfl) (by rfl) (List.cons_ne_nil _ _) (by decide)) (pv 1) (fun _ _ => rfl)) (pa_cons (pv 2) pa_nil))))
      (pss_one ps_retN)) pss_nil)
      (pss_cons (ps_fld (pv 0) pe_non (by rfl))
      (pss_cons (ps_set (i := 5) sc_Sheet_move.nd rfl (Or.inl rfl) (pm0 F_Sheet_rows hr (by omega) pass0 (pv 0)))
      (pss_cons (ps_set (i := 6) sc_Sheet_move.nd rfl (Or.inl rfl) (pe_ix ix_list (pv 5) (pc F_row_at hr (by omega) rfl pass0 (pa_cons (pv 5) (pa_cons (pe_fld (pv 0) (by rfl)) (pa_cons (pe_fld (pv 0) (by rfl)) pa_nil)))) (fun _ _ => rfl)))
      (pss_one (ps_if (pt_cmpR op_in_seq (pv 1) (pe_tup (pa_cons pe_str (pa_cons pe_str pa_nil))) rfl) (pss_one (ps_expr (pm1 F_Sheet_put hr (by omega) pass0 (pv 0) (pa_cons (pe_ifExp (pt_cmpR op_eq (pv 1) pe_str (nomark _)) (pe_fld (pv 6) (by rfl)) (pe_fld (pv 6) (by rfl))) (pa_cons (pe_cmpR op_eq (pv 1) pe_str (nomark _)) (pa_cons (pv 2) pa_nil)))))) (pss_one (ps_if (PW.pt (pw_and (pt_cmpR op_in_seq (pv 1) (pe_tup (pa_cons pe_str (pa_cons pe_str pa_nil))) rfl) (pw_and (pt_cmpR op_lt (pv 3) (pv 4) (nomark _)) (pw_and1 (pt_not (pt_val (pv 2))))))) (pss_one (ps_expr (pm1 F_Sheet_put hr (by omega) pass0 (pv 0) (pa_cons (pe_ifExp (pt_cmpR op_eq (pv 1) pe_str (nomark _)) (pv 3) (pv 4)) (pa_cons pe_bl (pa_cons pe_bl pa_nil)))))) (pss_one (ps_expr (pm1 F_Sheet_put hr (by omega) pass0 (pv 0) (pa_cons (pm1 F_Sheet_flat_goal hr (by omega) pass0 (pv 0) (pa_cons (pv 1) pa_nil)) (pa_cons pe_bl (pa_cons (pv 2) pa_nil)))))))))))))))),
    pure_Sheet_move h⟩⟩

theorem sc_Sheet_move_rows : FnScope ["self", "many", "is_choosing", "rows", "number", "wish", "goal", "offset"] ["self", "many", "is_choosing"] (defScope s_Sheet_move_rows) := ⟨rfl, rfl, rfl, by decide +kernel, rfl, by decide +kernel, by decide +kernel⟩
theorem ok_Sheet_move_rows (TT : Txt K mg) (F_Sheet_rows : Mt P w K mg base CX0 6 "Sheet" "rows" ["self"] (sp_Sheet_rows K)) (F_row_at : Fn P w K mg base CX0 1 "row_at" ["rows", "offset", "is_back"] (sp_row_at K)) (F_column_of : Fn P w K mg base CX0 2 "column_of" ["text", "row", "offset"] (sp_column_of K)) (F_Sheet_put : Mt P w K mg base CX0 8 "Sheet" "put" ["self", "offset", "is_back", "is_choosing"] (sp_Sheet_put K)) (F_offset_at : Fn P w K mg base CX0 3 "offset_at" ["text", "row", "column"] (sp_offset_at K)) (F_is_soft_end : Fn P w K mg base CX0 1 "is_soft_end" ["rows", "number", "offset"] (sp_is_soft_end K)) (DD : ∃ fd, FunD K "move_rows" "Sheet.move_rows" (defArgs s_Sheet_move_rows) (defBody s_Sheet_move_rows) (defScope s_Sheet_move_rows) [] [] (He.ma K (He.ga K "Sheet") "move_rows") fd) : Mt P w K mg base CX0 9 "Sheet" "move_rows" ["self", "many", "is_choosing"] (sp_Sheet_move_rows K) :=
  ⟨TT.cl_Sheet, TT.me_Sheet_move_rows, fx_mk DD sc_Sheet_move_rows (fun _ _ _ _ _ _ us hl => match us, hl with | [_, _, _], _ => rfl) len_Sheet_move_rows fun fd cdv A outer s H vs Q E hr h => ⟨t_Sheet_move_rows K E,
    (PSs.nox (pss_cons (ps_set (i := 3) sc_Sheet_move_rows.nd rfl (Or.inl rfl) (pm0 F_Sheet_rows hr (by omega) pass0 (pv 0)))
      (pss_cons (ps_set (i := 4) sc_Sheet_move_rows.nd rfl (Or.inl rfl) (pc F_row_at hr (by omega) rfl pass0 (pa_cons (pv 3) (pa_cons (pe_fld (pv 0) (by rfl)) (pa_cons (pe_fld (pv 0) (by rfl)) pa_nil)))))
      (pss_cons (ps_set (i := 5) sc_Sheet_move_rows.nd rfl (Or.inl rfl) (pe_ifExp (pt_cmpR op_isN (pe_fld (pv 0) (by rfl)) pe_non (nomark _)) (pc F_column_of hr (by omega) rfl pass0 (pa_cons (pe_fld (pv 0) (by rfl)) (pa_cons (pe_ix ix_list (pv 3) (pv 4) (fun _ _ => rfl)) (pa_cons (pe_fld (pv 0) (by rfl)) pa_nil)))) (pe_fld (pv 0) (by rfl))))
      (pss_cons (ps_set (i := 6) sc_Sheet_move_rows.nd rfl (Or.inl rfl) (pe_op op_add (pv 4) (pv 1)))
      (pss_cons (ps_if (PW.pt (pw_and (pt_cmpR op_lt (pv 6) pe_int (nomark _)) (pw_and1 (pt_cmpR op_eq (pv 4) pe_int (nomark _))))) (pss_one (ps_expr (pm1 F_Sheet_put hr (by omega) pass0 (pv 0) (pa_cons pe_int (pa_cons pe_bl (pa_cons (pv 2) pa_nil)))))) (pss_one (ps_if (PW.pt (pw_and (pt_cmpR op_ge (pv 6) (pe_callB call_len (by rfl) TT.f_len (by decide +kernel) (pa_cons (pv 3) pa_nil)) (nomark _)) (pw_and1 (pt_cmpR op_eq (pv 4) (pe_op op_sub (pe_callB call_len (by rfl) TT.f_len (by decide +kernel) (pa_cons (pv 3) pa_nil)) pe_int) (nomark _))))) (pss_one (ps_expr (pm1 F_Sheet_put hr (by omega) pass0 (pv 0) (pa_cons (pe_callB call_len (by rfl) TT.f_len (by decide +kernel) (pa_cons (pe_fld (pv 0) (by rfl)) pa_nil)) (pa_cons pe_bl (pa_cons (pv 2) pa_nil)))))) (pss_cons (ps_set (i := 6) sc_Sheet_move_rows.nd rfl (Or.inl rfl) (pe_callB (call_max2 rfl) (by rfl) TT.f_max (by decide +kernel) (pa_cons pe_int (pa_cons (pe_callB (call_min2 rfl) (by rfl) TT.f_min (by decide +kernel) (pa_cons (pv 6) (pa_cons (pe_op op_sub (pe_callB call_len (by rfl) TT.f_len (by decide +kernel) (pa_cons (pv 3) pa_nil)) pe_int) pa_nil))) pa_nil))))
      (pss_cons (ps_set (i := 7) sc_Sheet_move_rows.nd rfl (Or.inl rfl) (pc F_offset_at hr (by omega) rfl pass0 (pa_cons (pe_fld (pv 0) (by rfl)) (pa_cons (pe_ix ix_list (pv 3) (pv 6) (fun _ _ => rfl)) (pa_cons (pv 5) pa_nil)))))
      (pss_one (ps_expr (pm1 F_Sheet_put hr (by omega) pass0 (pv 0) (pa_cons (pv 7) (pa_cons (pc F_is_soft_end hr (by omega) rfl pass0 (pa_cons (pv 3) (pa_cons (pv 6) (pa_cons (pv 7) pa_nil)))) (pa_cons (pv 2) pa_nil)))))))))))
      (pss_one (ps_fld (pv 0) (pv 5) (by rfl))))))))),
    pure_Sheet_move_rows h⟩⟩

theorem sc_Sheet_change : FnScope ["self", "first", "last", "new"] ["self", "first", "last", "new"] (defScope s_Sheet_change) := ⟨rfl, rfl, rfl, by decide +kernel, rfl, by decide +kernel, by decide +kernel⟩
theorem ok_Sheet_change (TT : Txt K mg) (F_is_text : Fn P w K mg base CX0 1 "is_text" ["text"] (sp_is_text K)) (F_Sheet_set_between : Mt P w K mg base CX0 2 "Sheet" "set_between" ["self", "first", "last", "new"] (sp_Sheet_set_between K)) (DD : ∃ fd, FunD K "change" "Sheet.change" (defArgs s_Sheet_change) (defBody s_Sheet_change) (defScope s_Sheet_change) [] [] (He.ma K (He.ga K "Sheet") "change") fd) : Mt P w K mg base (L2.CX P w) 3 "Sheet" "change" ["self", "first", "last", "new"] (sp_Sheet_change K) :=
  ⟨TT.cl_Sheet, TT.me_Sheet_change, fx_mk DD sc_Sheet_change (fun _ _ _ _ _ _ us hl => match us, hl with | [_, _, _, _], _ => rfl) len_Sheet_change fun fd cdv A outer s H vs Q E hr h => ⟨t_Sheet_change K E,
    (pss_cons (ps_if (pt_not (pt_val (pc F_is_text hr (by omega) rfl pass0 (pa_cons (pe_op op_add_str (pe_op op_add_str (pe_slice sl_str (pe_fld (pv 0) (by rfl)) po_none (po_some (pv 1))) (pv 3)) (pe_slice sl_str (pe_fld (pv 0) (by rfl)) (po_some (pv 2)) po_none)) pa_nil)))) (pss_one (ps_rz rfl (takes_of rfl rfl rfl rfl) TT.x_BadText rfl)) pss_nil)
      (pss_one (ps_expr (pm1 F_Sheet_set_between hr (by omega) pass0 (pv 0) (pa_cons (pv 1) (pa_cons (pv 2) (pa_cons (pv 3) pa_nil))))))),
    pure_Sheet_change h⟩⟩

theorem sc_Sheet_set_between : FnScope ["self", "first", "last", "new", "name"] ["self", "first", "last", "new"] (defScope s_Sheet_set_between) := ⟨rfl, rfl, rfl, by decide +kernel, rfl, by decide +kernel, by decide +kernel⟩
theorem ok_Sheet_set_between (TT : Txt K mg) (F_carried : Fn P w K mg base CX0 1 "carried" ["offset", "first", "last", "many"] (sp_carried K)) (DD : ∃ fd, FunD K "set_between" "Sheet.set_between" (defArgs s_Sheet_set_between) (defBody s_Sheet_set_between) (defScope s_Sheet_set_between) [] [] (He.ma K (He.ga K "Sheet") "set_between") fd) : Mt P w K mg base CX0 2 "Sheet" "set_between" ["self", "first", "last", "new"] (sp_Sheet_set_between K) :=
  ⟨TT.cl_Sheet, TT.me_Sheet_set_between, fx_mk DD sc_Sheet_set_between (fun _ _ _ _ _ _ us hl => match us, hl with | [_, _, _, _], _ => rfl) len_Sheet_set_between fun fd cdv A outer s H vs Q E hr h => ⟨t_Sheet_set_between K E,
    (PSs.nox (pss_cons (ps_fld (pv 0) (pe_op op_add_str (pe_op op_add_str (pe_slice sl_str (pe_fld (pv 0) (by rfl)) po_none (po_some (pv 1))) (pv 3)) (pe_slice sl_str (pe_fld (pv 0) (by rfl)) (po_some (pv 2)) po_none)) (by rfl))
      (pss_cons (ps_for PassesOwn.never rfl (pi_list (pe_listKeys rfl (pe_fld (pv 0) (by rfl)) (by rfl) TT.f_list (by decide +kernel))) (pg_name (i := 4) sc_Sheet_set_between.nd rfl (Or.inl rfl)) (pss_one (ps_dput (un1 hr.units) (pe_fld (pv 0) (by rfl)) (pv 4) (pc F_carried hr (by omega) rfl pass0 (pa_cons (pe_dget (un1 hr.units) (pe_fld (pv 0) (by rfl)) (pv 4) (fun _ _ => rfl)) (pa_cons (pv 1) (pa_cons (pv 2) (pa_cons (pe_callB call_len (by rfl) TT.f_len (by decide +kernel) (pa_cons (pv 3) pa_nil)) pa_nil))))) (by rfl))))
      (pss_one (ps_fld (pv 0) pe_non (by rfl)))))),
    pure_Sheet_set_between h⟩⟩

theorem sc_Sheet_write : FnScope ["self", "new", "first", "last"] ["self", "new"] (defScope s_Sheet_write) := ⟨rfl, rfl, rfl, by decide +kernel, rfl, by decide +kernel, by decide +kernel⟩
theorem ok_Sheet_write (TT : Txt K mg) (F_Sheet_chosen : Mt P w K mg base CX0 1 "Sheet" "chosen" ["self"] (sp_Sheet_chosen K)) (F_Sheet_change : Mt P w K mg base (L2.CX P w) 3 "Sheet" "change" ["self", "first", "last", "new"] (sp_Sheet_change K)) (F_Sheet_put : Mt P w K mg base CX0 8 "Sheet" "put" ["self", "offset", "is_back", "is_choosing"] (sp_Sheet_put K)) (DD : ∃ fd, FunD K "write" "Sheet.write" (defArgs s_Sheet_write) (defBody s_Sheet_write) (defScope s_Sheet_write) [] [] (He.ma K (He.ga K "Sheet") "write") fd) : Mt P w K mg base (L2.CX P w) 9 "Sheet" "write" ["self", "new"] (sp_Sheet_write K) :=
  ⟨TT.cl_Sheet, TT.me_Sheet_write, fx_mk DD sc_Sheet_write (fun _ _ _ _ _ _ us hl => match us, hl with | [_, _], _ => rfl) len_Sheet_write fun fd cdv A outer s H vs Q E hr h => ⟨t_Sheet_write K E,
    (pss_cons (ps_asg (pm0 F_Sheet_chosen hr (by omega) pass0 (pv 0)) (pg_tup rfl (pgs_cons (pg_name (i := 2) sc_Sheet_write.nd rfl (Or.inl rfl)) (pgs_cons (pg_name (i := 3) sc_Sheet_write.nd rfl (Or.inl rfl)) pgs_nil))))
      (pss_cons (ps_expr (pm1 F_Sheet_change hr (by omega) (passG (takes_of rfl rfl rfl rfl)) (pv 0) (pa_cons (pv 2) (pa_cons (pv 3) (pa_cons (pv 1) pa_nil)))))
      (pss_one (ps_expr (pm1 F_Sheet_put hr (by omega) pass0 (pv 0) (pa_cons (pe_op op_add (pv 2) (pe_callB call_len (by rfl) TT.f_len (by decide +kernel) (pa_cons (pv 1) pa_nil))) (pa_cons pe_bl (pa_cons pe_bl pa_nil)))))))),
    pure_Sheet_write h⟩⟩

theorem ok_Sheet_erase (TT : Txt K mg) (DD : ∃ fd, FunD K "erase" "Sheet.erase" (defArgs s_Sheet_erase) (defBody s_Sheet_erase) (defScope s_Sheet_erase) [] [] (He.ma K (He.ga K "Sheet") "erase") fd) : Mt P w K mg base (L2.CX P w) 1 "Sheet" "erase" ["self", "move"] sp_none := mt_none TT.cl_Sheet TT.me_Sheet_erase DD (fun _ _ _ _ _ _ us hl => match us, hl with | [_, _], _ => rfl) (fun _ _ _ _ z => z)

theorem ok_Sheet_resize (TT : Txt K mg) (DD : ∃ fd, FunD K "resize" "Sheet.resize" (defArgs s_Sheet_resize) (defBody s_Sheet_resize) (defScope s_Sheet_resize) [] [] (He.ma K (He.ga K "Sheet") "resize") fd) : Mt P w K mg base (L2.CX P w) 1 "Sheet" "resize" ["self", "width", "height"] sp_none := mt_none TT.cl_Sheet TT.me_Sheet_resize DD (fun _ _ _ _ _ _ us hl => match us, hl with | [_, _, _], _ => rfl) (fun _ _ _ _ z => z)

theorem ok_Sheet_mark (TT : Txt K mg) (DD : ∃ fd, FunD K "mark" "Sheet.mark" (defArgs s_Sheet_mark) (defBody s_Sheet_mark) (defScope s_Sheet_mark) [] [] (He.ma K (He.ga K "Sheet") "mark") fd) : Mt P w K mg base (L2.CX P w) 1 "Sheet" "mark" ["self", "name", "offset"] sp_none := mt_none TT.cl_Sheet TT.me_Sheet_mark DD (fun _ _ _ _ _ _ us hl => match us, hl with | [_, _, _], _ => rfl) (fun _ _ _ _ z => z)

theorem sc_Sheet_marks : FnScope ["self", "name"] ["self"] (defScope s_Sheet_marks) := ⟨rfl, rfl, rfl, by decide +kernel, rfl, by decide +kernel, by decide +kernel⟩
theorem ok_Sheet_marks (TT : Txt K mg)  (DD : ∃ fd, FunD K "marks" "Sheet.marks" (defArgs s_Sheet_marks) (defBody s_Sheet_marks) (defScope s_Sheet_marks) [] [] (He.ma K (He.ga K "Sheet") "marks") fd) : Mt P w K mg base CX0 1 "Sheet" "marks" ["self"] (sp_Sheet_marks K) :=
  ⟨TT.cl_Sheet, TT.me_Sheet_marks, fx_mk DD sc_Sheet_marks (fun _ _ _ _ _ _ us hl => match us, hl with | [_], _ => rfl) len_Sheet_marks fun fd cdv A outer s H vs Q E hr h => ⟨t_Sheet_marks K E,
    (PSs.nox (pss_one (ps_ret (pe_lc (own := [("name", 1)]) (g := (gName 1)) (tt := tYes) (by rfl) sc_Sheet_marks.nd (pi_list (pe_sortKeys rfl (pe_fld (pv 0) (by rfl)) (by rfl) TT.f_sorted (by decide +kernel))) (blkOk_by (own := [("name", 1)]) (N := ["self", "name"]) (sc := defScope s_Sheet_marks) (by decide +kernel)) (fun _ _ _ _ _ => (pg_name (i := 1) sc_Sheet_marks.nd rfl (Or.inl rfl))) (fun _ _ _ _ _ => pts_nil) (fun _ _ _ _ _ => (pe_tup (pa_cons (pv 1) (pa_cons (pe_dget (un1 hr.units) (pe_fld (pv 0) (by rfl)) (pv 1) (fun _ _ => rfl)) pa_nil)))))))),
    pure_Sheet_marks h⟩⟩

theorem ok_Sheet_view (TT : Txt K mg) (DD : ∃ fd, FunD K "view" "Sheet.view" (defArgs s_Sheet_view) (defBody s_Sheet_view) (defScope s_Sheet_view) [] [] (He.ma K (He.ga K "Sheet") "view") fd) : Mt P w K mg base CX0 1 "Sheet" "view" ["self"] sp_none := mt_none TT.cl_Sheet TT.me_Sheet_view DD (fun _ _ _ _ _ _ us hl => match us, hl with | [_], _ => rfl) (fun _ _ _ _ z => z)

theorem sc_carried : FnScope ["offset", "first", "last", "many"] ["offset", "first", "last", "many"] (defScope s_carried) := ⟨rfl, rfl, rfl, by decide +kernel, rfl, by decide +kernel, by decide +kernel⟩
theorem ok_carried (TT : Txt K mg)  (DD : ∃ fd, FunD K "carried" "carried" (defArgs s_carried) (defBody s_carried) (defScope s_carried) [] [] (He.ga K "carried") fd) : Fn P w K mg base CX0 1 "carried" ["offset", "first", "last", "many"] (sp_carried K) :=
  fn_mk DD TT.g_carried sc_carried (fun _ _ _ _ _ _ us hl => match us, hl with | [_, _, _, _], _ => rfl) len_carried fun fd cdv A outer s H vs Q E hr h => ⟨t_carried K E,
    (PSs.nox (pss_cons (ps_if (pt_cmpR op_le (pv 0) (pv 1) (nomark _)) (pss_one (ps_ret (pv 0))) pss_nil)
      (pss_one (ps_ret (pe_ifExp (pt_cmpR op_lt (pv 0) (pv 2) (nomark _)) (pe_op op_add (pv 1) (pv 3)) (pe_op op_add (pe_op op_sub (pv 0) (pe_op op_sub (pv 2) (pv 1))) (pv 3))))))),
    pure_carried h⟩

theorem sc__law_cell : FnScope ["script", "k"] ["script", "k"] (defScope s__law_cell) := ⟨rfl, rfl, rfl, by decide +kernel, rfl, by decide +kernel, by decide +kernel⟩
theorem ok__law_cell (TT : Txt K mg)  (DD : ∃ fd, FunD K "_law_cell" "_law_cell" (defArgs s__law_cell) (defBody s__law_cell) (defScope s__law_cell) [] [] (He.ga K "_law_cell") fd) : Fn P w K mg base CX0 1 "_law_cell" ["script", "k"] (sp__law_cell K) :=
  fn_mk DD TT.g__law_cell sc__law_cell (fun _ _ _ _ _ _ us hl => match us, hl with | [_, _], _ => rfl) len__law_cell fun fd cdv A outer s H vs Q E hr h => ⟨t__law_cell K E,
    (PSs.nox (pss_cons (ps_if (pt_truth (pv 0) (by intro _; rfl)) (pss_one (ps_ret (pe_ix ix_list (pv 0) (pe_op op_mod (pv 1) (pe_callB call_len (by rfl) TT.f_len (by decide +kernel) (pa_cons (pv 0) pa_nil))) (fun _ _ => rfl)))) pss_nil)
      (pss_one (ps_ret pe_int)))),
    pure__law_cell h⟩

theorem sc__law_mix : FnScope ["script", "k", "number"] ["script", "k"] (defScope s__law_mix) := ⟨rfl, rfl, rfl, by decide +kernel, rfl, by decide +kernel, by decide +kernel⟩
theorem ok__law_mix (TT : Txt K mg) (F__law_cell : Fn P w K mg base CX0 1 "_law_cell" ["script", "k"] (sp__law_cell K)) (DD : ∃ fd, FunD K "_law_mix" "_law_mix" (defArgs s__law_mix) (defBody s__law_mix) (defScope s__law_mix) [] [] (He.ga K "_law_mix") fd) : Fn P w K mg base CX0 2 "_law_mix" ["script", "k"] (sp__law_mix K) :=
  fn_mk DD TT.g__law_mix sc__law_mix (fun _ _ _ _ _ _ us hl => match us, hl with | [_, _], _ => rfl) len__law_mix fun fd cdv A outer s H vs Q E hr h => ⟨t__law_mix K E,
    (PSs.nox (pss_cons (ps_set (i := 2) sc__law_mix.nd rfl (Or.inl rfl) (pe_op op_mod (pe_op op_add (pc F__law_cell hr (by omega) rfl pass0 (pa_cons (pv 0) (pa_cons (pv 1) pa_nil))) (pe_op op_mul pe_int (pe_op op_add (pv 1) pe_int))) pe_int))
      (pss_cons (ps_set (i := 2) sc__law_mix.nd rfl (Or.inl rfl) (pe_op op_mod (pe_op op_pow (pv 2) pe_int) pe_int))
      (pss_one (ps_ret (pe_op op_mod (pe_op op_add (pe_op op_mul (pe_op op_fdiv (pv 2) pe_int) pe_int) (pv 2)) pe_int)))))),
    pure__law_mix h⟩

theorem sc__law_draw : FnScope ["script", "town", "many"] ["script", "town", "many"] (defScope s__law_draw) := ⟨rfl, rfl, rfl, by decide +kernel, rfl, by decide +kernel, by decide +kernel⟩
theorem ok__law_draw (TT : Txt K mg) (F__law_mix : Fn P w K mg base CX0 2 "_law_mix" ["script", "k"] (sp__law_mix K)) (DD : ∃ fd, FunD K "_law_draw" "_law_draw" (defArgs s__law_draw) (defBody s__law_draw) (defScope s__law_draw) [] [] (He.ga K "_law_draw") fd) : Fn P w K mg base CX0 3 "_law_draw" ["script", "town", "many"] (sp__law_draw K) :=
  fn_mk DD TT.g__law_draw sc__law_draw (fun _ _ _ _ _ _ us hl => match us, hl with | [_, _, _], _ => rfl) len__law_draw fun fd cdv A outer s H vs Q E hr h => ⟨t__law_draw K E,
    (PSs.nox (pss_cons (ps_expr (pe_bm PySem.F.plainAttrs_list PySem.F.slot_list_append PySem.F.type_list_append mt_append (pv 1) (pa_cons pe_int pa_nil)))
      (pss_one (ps_ret (pe_op op_mod (pe_op op_fdiv (pc F__law_mix hr (by omega) rfl pass0 (pa_cons (pv 0) (pa_cons (pe_callB call_len (by rfl) TT.f_len (by decide +kernel) (pa_cons (pv 1) pa_nil)) pa_nil))) pe_int) (pv 2)))))),
    pure__law_draw h⟩

theorem sc__law_pick : FnScope ["script", "town", "some"] ["script", "town", "some"] (defScope s__law_pick) := ⟨rfl, rfl, rfl, by decide +kernel, rfl, by decide +kernel, by decide +kernel⟩
theorem ok__law_pick (TT : Txt K mg) (F__law_draw : Fn P w K mg base CX0 3 "_law_draw" ["script", "town", "many"] (sp__law_draw K)) (DD : ∃ fd, FunD K "_law_pick" "_law_pick" (defArgs s__law_pick) (defBody s__law_pick) (defScope s__law_pick) [] [] (He.ga K "_law_pick") fd) : Fn P w K mg base CX0 4 "_law_pick" ["script", "town", "some"] (sp__law_pick K) :=
  fn_mk DD TT.g__law_pick sc__law_pick (fun _ _ _ _ _ _ us hl => match us, hl with | [_, _, _], _ => rfl) len__law_pick fun fd cdv A outer s H vs Q E hr h => ⟨t__law_pick K E,
    (PSs.nox (pss_one (ps_ret (pe_ix ix_list (pv 2) (pc F__law_draw hr (by omega) rfl pass0 (pa_cons (pv 0) (pa_cons (pv 1) (pa_cons (pe_callB call_len (by rfl) TT.f_len (by decide +kernel) (pa_cons (pv 2) pa_nil)) pa_nil)))) (fun _ _ => rfl))))),
    pure__law_pick h⟩

theorem sc_law : FnScope ["script", "town", "gaps", "text", "words", "k", "word", "sheet", "start", "end", "offset"] ["script"] (defScope s_law) := ⟨rfl, rfl, rfl, by decide +kernel, rfl, by decide +kernel, by decide +kernel⟩
theorem ok_law (TT : Txt K mg) (F__law_pick : Fn P w K mg base CX0 4 "_law_pick" ["script", "town", "some"] (sp__law_pick K)) (F__law_draw : Fn P w K mg base CX0 3 "_law_draw" ["script", "town", "many"] (sp__law_draw K)) (F_Sheet_init : Mkr P w K mg base (L2.CX P w) 3 "Sheet" ["self", "text", "width", "height"] (sp_Sheet_init K)) (F_Sheet_move : Mt P w K mg base (L2.CX P w) 10 "Sheet" "move" ["self", "move", "is_choosing"] (sp_Sheet_move K)) (F_Sheet_at : Mt P w K mg base CX0 7 "Sheet" "at" ["self"] (sp_Sheet_at K)) (F_Sheet_chosen : Mt P w K mg base CX0 1 "Sheet" "chosen" ["self"] (sp_Sheet_chosen K)) (F_Sheet_go : Mt P w K mg base (L2.CX P w) 9 "Sheet" "go" ["self", "offset"] (sp_Sheet_go K)) (DD : ∃ fd, FunD K "law" "law" (defArgs s_law) (defBody s_law) (defScope s_law) [] [] (He.ga K "law") fd) : Fn P w K mg base CX0 11 "law" ["script"] (sp_law K) :=
  fn_mk DD TT.g_law sc_law (fun _ _ _ _ _ _ us hl => match us, hl with | [_], _ => rfl) len_law fun fd cdv A outer s H vs Q E hr h => ⟨t_law K E,
    (PSs.nox (pss_cons (ps_set (i := 1) sc_law.nd rfl (Or.inl rfl) (pe_lst pa_nil))
      (pss_cons (ps_set (i := 2) sc_law.nd rfl (Or.inl rfl) (pe_lst (pa_cons pe_str (pa_cons pe_str (pa_cons pe_str (pa_cons pe_str (pa_cons pe_str (pa_cons pe_str (pa_cons pe_str pa_nil)))))))))
      (pss_cons (ps_set (i := 3) sc_law.nd rfl (Or.inl rfl) (pc F__law_pick hr (by omega) rfl pass0 (pa_cons (pv 0) (pa_cons (pv 1) (pa_cons (pe_lst (pa_cons pe_str (pa_cons pe_str (pa_cons pe_str (pa_cons pe_str pa_nil))))) pa_nil)))))
      (pss_cons (ps_set (i := 4) sc_law.nd rfl (Or.inl rfl) (pe_lst pa_nil))
      (pss_cons (ps_for PassesOwn.never rfl (pi_range1 (by rfl) TT.f_range (pa_cons (pc F__law_draw hr (by omega) rfl pass0 (pa_cons (pv 0) (pa_cons (pv 1) (pa_cons pe_int pa_nil)))) pa_nil)) (pg_name (i := 5) sc_law.nd rfl (Or.inl rfl)) (pss_cons (ps_set (i := 6) sc_law.nd rfl (Or.inl rfl) (pc F__law_pick hr (by omega) rfl pass0 (pa_cons (pv 0) (pa_cons (pv 1) (pa_cons (pe_lst (pa_cons pe_str (pa_cons pe_str (pa_cons pe_str (pa_cons pe_str (pa_cons pe_str pa_nil)))))) pa_nil)))))
      (pss_cons (ps_expr (pe_bm PySem.F.plainAttrs_list PySem.F.slot_list_append PySem.F.type_list_append mt_append (pv 4) (pa_cons (pe_tup (pa_cons (pe_callB call_len (by rfl) TT.f_len (by decide +kernel) (pa_cons (pv 3) pa_nil)) (pa_cons (pe_op op_add (pe_callB call_len (by rfl) TT.f_len (by decide +kernel) (pa_cons (pv 3) pa_nil)) (pe_callB call_len (by rfl) TT.f_len (by decide +kernel) (pa_cons (pv 6) pa_nil))) pa_nil))) pa_nil)))
      (pss_one (ps_set (i := 3) sc_law.nd rfl (Or.inl rfl) (pe_op op_add_str (pe_op op_add_str (pv 3) (pv 6)) (pc F__law_pick hr (by omega) rfl pass0 (pa_cons (pv 0) (pa_cons (pv 1) (pa_cons (pv 2) pa_nil))))))))))
      (pss_cons (ps_if (PW.pt (pw_and (pt_cmpR (op_neD hr.units) (pv 4) (pe_lst pa_nil) (nomark _)) (pw_and1 (pt_cmpR op_eq (pc F__law_draw hr (by omega) rfl pass0 (pa_cons (pv 0) (pa_cons (pv 1) (pa_cons pe_int pa_nil)))) pe_int (nomark _))))) (pss_one (ps_set (i := 3) sc_law.nd rfl (Or.inl rfl) (pe_slice sl_str (pv 3) po_none (po_some (pe_ix ix_tup (pe_ix ix_list (pv 4) (pe_un un_neg pe_int) (fun _ _ => rfl)) pe_int (fun _ _ => rfl)))))) pss_nil)
      (pss_cons (ps_set (i := 7) sc_law.nd rfl (Or.inl rfl) (pmk F_Sheet_init hr (by omega) rfl passL (pa_cons (pv 3) (pa_cons (pe_op op_add pe_int (pc F__law_draw hr (by omega) rfl pass0 (pa_cons (pv 0) (pa_cons (pv 1) (pa_cons pe_int pa_nil))))) (pa_cons pe_int pa_nil)))))
      (pss_cons (ps_for PassesOwn.never rfl (pi_list (pv 4)) (pg_tup rfl (pgs_cons (pg_name (i := 8) sc_law.nd rfl (Or.inl rfl)) (pgs_cons (pg_name (i := 9) sc_law.nd rfl (Or.inl rfl)) pgs_nil))) (pss_cons (ps_expr (pm1 F_Sheet_move hr (by omega) passL (pv 7) (pa_cons pe_str (pa_cons pe_bl pa_nil))))
      (pss_one (ps_if (pt_cmpR op_ne (pe_ix ix_tup (pm0 F_Sheet_at hr (by omega) pass0 (pv 7)) pe_int (fun _ _ => rfl)) (pv 9) (nomark _)) (pss_one (ps_ret pe_bl)) pss_nil))))
      (pss_cons (ps_expr (pm1 F_Sheet_move hr (by omega) passL (pv 7) (pa_cons pe_str (pa_cons pe_bl pa_nil))))
      (pss_cons (ps_if (pt_cmpR op_ne (pe_ix ix_tup (pm0 F_Sheet_at hr (by omega) pass0 (pv 7)) pe_int (fun _ _ => rfl)) (pe_callB call_len (by rfl) TT.f_len (by decide +kernel) (pa_cons (pv 3) pa_nil)) (nomark _)) (pss_one (ps_ret pe_bl)) pss_nil)
      (pss_cons (ps_for PassesOwn.never rfl (pi_list (pe_rev (pv 4) (po_some (pe_un un_neg pe_int)))) (pg_tup rfl (pgs_cons (pg_name (i := 8) sc_law.nd rfl (Or.inl rfl)) (pgs_cons (pg_name (i := 9) sc_law.nd rfl (Or.inl rfl)) pgs_nil))) (pss_cons (ps_expr (pm1 F_Sheet_move hr (by omega) passL (pv 7) (pa_cons pe_str (pa_cons pe_bl pa_nil))))
      (pss_one (ps_if (PW.pt (pw_or (pt_cmpR op_ne (pe_ix ix_tup (pm0 F_Sheet_at hr (by omega) pass0 (pv 7)) pe_int (fun _ _ => rfl)) (pv 8) (nomark _)) (pw_or1 (pt_cmpR (op_neD hr.units) (pm0 F_Sheet_chosen hr (by omega) pass0 (pv 7)) (pe_tup (pa_cons (pv 8) (pa_cons (pe_callB call_len (by rfl) TT.f_len (by decide +kernel) (pa_cons (pv 3) pa_nil)) pa_nil))) (nomark _))))) (pss_one (ps_ret pe_bl)) pss_nil))))
      (pss_cons (ps_expr (pm1 F_Sheet_move hr (by omega) passL (pv 7) (pa_cons pe_str (pa_cons pe_bl pa_nil))))
      (pss_cons (ps_if (pt_cmpR op_ne (pe_ix ix_tup (pm0 F_Sheet_at hr (by omega) pass0 (pv 7)) pe_int (fun _ _ => rfl)) pe_int (nomark _)) (pss_one (ps_ret pe_bl)) pss_nil)
      (pss_cons (ps_for PassesOwn.never rfl (pi_list (pv 4)) (pg_tup rfl (pgs_cons (pg_name (i := 8) sc_law.nd rfl (Or.inl rfl)) (pgs_cons (pg_name (i := 9) sc_law.nd rfl (Or.inl rfl)) pgs_nil))) (pss_one (ps_for PassesOwn.never rfl (pi_range2 (by rfl) TT.f_range (pa_cons (pv 8) (pa_cons (pe_op op_add (pv 9) pe_int) pa_nil))) (pg_name (i := 10) sc_law.nd rfl (Or.inl rfl)) (pss_cons (ps_expr (pm1 F_Sheet_go hr (by omega) passL (pv 7) (pa_cons (pv 10) pa_nil)))
      (pss_cons (ps_expr (pm1 F_Sheet_move hr (by omega) passL (pv 7) (pa_cons pe_str (pa_cons pe_bl pa_nil))))
      (pss_cons (ps_if (PW.pt (pw_and (pt_cmpR op_lt (pv 10) (pv 9) (nomark _)) (pw_and1 (pt_cmpR op_ne (pe_ix ix_tup (pm0 F_Sheet_at hr (by omega) pass0 (pv 7)) pe_int (fun _ _ => rfl)) (pv 9) (nomark _))))) (pss_one (ps_ret pe_bl)) pss_nil)
      (pss_cons (ps_expr (pm1 F_Sheet_go hr (by omega) passL (pv 7) (pa_cons (pv 10) pa_nil)))
      (pss_cons (ps_expr (pm1 F_Sheet_move hr (by omega) passL (pv 7) (pa_cons pe_str (pa_cons pe_bl pa_nil))))
      (pss_one (ps_if (PW.pt (pw_and (pt_cmpR op_gt (pv 10) (pv 8) (nomark _)) (pw_and1 (pt_cmpR op_ne (pe_ix ix_tup (pm0 F_Sheet_at hr (by omega) pass0 (pv 7)) pe_int (fun _ _ => rfl)) (pv 8) (nomark _))))) (pss_one (ps_ret pe_bl)) pss_nil))))))))))
      (pss_one (ps_ret pe_bl))))))))))))))))),
    pure_law h⟩

end
end Cr

namespace Cr
open PySem PySem.Spec PyProof.Rows L2
theorem law_in {K : PySem.W.Frag} {mg : Str → Option Value} (TT : Txt K mg) (F : XFs K ∧ CoF K) (ns : List Int) (R : Da → Prop) (X : Str → Prop) (h : R (.bl true)) : f_law K [.scr ns] R X := ⟨ns, rfl, F.1, ⟨TT.cl_Row, TT.na_Row_start, TT.na_Row_end, TT.na_Row_is_soft⟩, ⟨TT.cl_Sheet, fun f hf => by
  simp only [shNames, List.mem_cons, List.not_mem_nil, or_false] at hf
  rcases hf with rfl | rfl | rfl | rfl | rfl | rfl | rfl | rfl | rfl
  · exact TT.na_Sheet_now
  · exact TT.na_Sheet_width
  · exact TT.na_Sheet_height
  · exact TT.na_Sheet_caret
  · exact TT.na_Sheet_is_back
  · exact TT.na_Sheet_anchor
  · exact TT.na_Sheet_wish
  · exact TT.na_Sheet_first
  · exact TT.na_Sheet_marked⟩, F.2, h⟩
theorem htxt {K : PySem.W.Frag} {h : Heap} {mg : Str → Option Value} (X : K.In h) (G : h.Ns mainGlobals mg) (c : He.SaysD fas dfs K) : Txt K mg where
  g__wall := He.glo_ok X G (c.fact 0 (f := .glo "_wall") rfl)
  g_is_text := He.glo_ok X G (c.fact 1 (f := .glo "is_text") rfl)
  g_look_text := He.glo_ok X G (c.fact 2 (f := .glo "look_text") rfl)
  g_look_width := He.glo_ok X G (c.fact 3 (f := .glo "look_width") rfl)
  g_wide := He.glo_ok X G (c.fact 4 (f := .glo "wide") rfl)
  g_fitting := He.glo_ok X G (c.fact 5 (f := .glo "fitting") rfl)
  g_row_end := He.glo_ok X G (c.fact 6 (f := .glo "row_end") rfl)
  g_paragraph_rows := He.glo_ok X G (c.fact 7 (f := .glo "paragraph_rows") rfl)
  g_paragraphs := He.glo_ok X G (c.fact 8 (f := .glo "paragraphs") rfl)
  g_rows_of := He.glo_ok X G (c.fact 9 (f := .glo "rows_of") rfl)
  g_row_at := He.glo_ok X G (c.fact 10 (f := .glo "row_at") rfl)
  g_column_of := He.glo_ok X G (c.fact 11 (f := .glo "column_of") rfl)
  g_offset_at := He.glo_ok X G (c.fact 12 (f := .glo "offset_at") rfl)
  g_look_offset := He.glo_ok X G (c.fact 13 (f := .glo "look_offset") rfl)
  g_is_soft_end := He.glo_ok X G (c.fact 14 (f := .glo "is_soft_end") rfl)
  g_carried := He.glo_ok X G (c.fact 15 (f := .glo "carried") rfl)
  g__law_cell := He.glo_ok X G (c.fact 16 (f := .glo "_law_cell") rfl)
  g__law_mix := He.glo_ok X G (c.fact 17 (f := .glo "_law_mix") rfl)
  g__law_draw := He.glo_ok X G (c.fact 18 (f := .glo "_law_draw") rfl)
  g__law_pick := He.glo_ok X G (c.fact 19 (f := .glo "_law_pick") rfl)
  g_law := He.glo_ok X G (c.fact 20 (f := .glo "law") rfl)
  g_CaretError := He.glo_ok X G (c.fact 21 (f := .glo "CaretError") rfl)
  g_BadText := He.glo_ok X G (c.fact 22 (f := .glo "BadText") rfl)
  g_BadSize := He.glo_ok X G (c.fact 23 (f := .glo "BadSize") rfl)
  g_BadPlace := He.glo_ok X G (c.fact 24 (f := .glo "BadPlace") rfl)
  g_BadMove := He.glo_ok X G (c.fact 25 (f := .glo "BadMove") rfl)
  g_Row := He.glo_ok X G (c.fact 26 (f := .glo "Row") rfl)
  g_Sheet := He.glo_ok X G (c.fact 27 (f := .glo "Sheet") rfl)
  cl_Row := He.cls_ok (c.fact 28 (f := .cls "Row") rfl)
  mk_Row := He.mkr_ok (c.fact 29 (f := .mkr "Row") rfl)
  me_Row_told := He.meth_ok (c.fact 30 (f := .meth "Row" "told") rfl)
  na_Row_start := He.noat_ok (c.fact 31 (f := .noat "Row" "start") rfl)
  na_Row_end := He.noat_ok (c.fact 32 (f := .noat "Row" "end") rfl)
  na_Row_is_soft := He.noat_ok (c.fact 33 (f := .noat "Row" "is_soft") rfl)
  cl_Sheet := He.cls_ok (c.fact 34 (f := .cls "Sheet") rfl)
  mk_Sheet := He.mkr_ok (c.fact 35 (f := .mkr "Sheet") rfl)
  me_Sheet_text := He.meth_ok (c.fact 36 (f := .meth "Sheet" "text") rfl)
  me_Sheet_rows := He.meth_ok (c.fact 37 (f := .meth "Sheet" "rows") rfl)
  me_Sheet_at := He.meth_ok (c.fact 38 (f := .meth "Sheet" "at") rfl)
  me_Sheet_chosen := He.meth_ok (c.fact 39 (f := .meth "Sheet" "chosen") rfl)
  me_Sheet_chosen_text := He.meth_ok (c.fact 40 (f := .meth "Sheet" "chosen_text") rfl)
  me_Sheet_put := He.meth_ok (c.fact 41 (f := .meth "Sheet" "put") rfl)
  me_Sheet_scroll := He.meth_ok (c.fact 42 (f := .meth "Sheet" "scroll") rfl)
  me_Sheet_go := He.meth_ok (c.fact 43 (f := .meth "Sheet" "go") rfl)
  me_Sheet_choose := He.meth_ok (c.fact 44 (f := .meth "Sheet" "choose") rfl)
  me_Sheet_point := He.meth_ok (c.fact 45 (f := .meth "Sheet" "point") rfl)
  me_Sheet_is_letter := He.meth_ok (c.fact 46 (f := .meth "Sheet" "is_letter") rfl)
  me_Sheet_word_right := He.meth_ok (c.fact 47 (f := .meth "Sheet" "word_right") rfl)
  me_Sheet_word_left := He.meth_ok (c.fact 48 (f := .meth "Sheet" "word_left") rfl)
  me_Sheet_flat_goal := He.meth_ok (c.fact 49 (f := .meth "Sheet" "flat_goal") rfl)
  me_Sheet_move := He.meth_ok (c.fact 50 (f := .meth "Sheet" "move") rfl)
  me_Sheet_move_rows := He.meth_ok (c.fact 51 (f := .meth "Sheet" "move_rows") rfl)
  me_Sheet_change := He.meth_ok (c.fact 52 (f := .meth "Sheet" "change") rfl)
  me_Sheet_set_between := He.meth_ok (c.fact 53 (f := .meth "Sheet" "set_between") rfl)
  me_Sheet_write := He.meth_ok (c.fact 54 (f := .meth "Sheet" "write") rfl)
  me_Sheet_erase := He.meth_ok (c.fact 55 (f := .meth "Sheet" "erase") rfl)
  me_Sheet_resize := He.meth_ok (c.fact 56 (f := .meth "Sheet" "resize") rfl)
  me_Sheet_mark := He.meth_ok (c.fact 57 (f := .meth "Sheet" "mark") rfl)
  me_Sheet_marks := He.meth_ok (c.fact 58 (f := .meth "Sheet" "marks") rfl)
  me_Sheet_view := He.meth_ok (c.fact 59 (f := .meth "Sheet" "view") rfl)
  na_Sheet_now := He.noat_ok (c.fact 60 (f := .noat "Sheet" "now") rfl)
  na_Sheet_width := He.noat_ok (c.fact 61 (f := .noat "Sheet" "width") rfl)
  na_Sheet_height := He.noat_ok (c.fact 62 (f := .noat "Sheet" "height") rfl)
  na_Sheet_caret := He.noat_ok (c.fact 63 (f := .noat "Sheet" "caret") rfl)
  na_Sheet_is_back := He.noat_ok (c.fact 64 (f := .noat "Sheet" "is_back") rfl)
  na_Sheet_anchor := He.noat_ok (c.fact 65 (f := .noat "Sheet" "anchor") rfl)
  na_Sheet_wish := He.noat_ok (c.fact 66 (f := .noat "Sheet" "wish") rfl)
  na_Sheet_first := He.noat_ok (c.fact 67 (f := .noat "Sheet" "first") rfl)
  na_Sheet_marked := He.noat_ok (c.fact 68 (f := .noat "Sheet" "marked") rfl)
  c_MOST_TEXT := He.int_ok X G (c.fact 69 (f := .int "MOST_TEXT" 2000) rfl)
  c_MOST_WIDTH := He.int_ok X G (c.fact 70 (f := .int "MOST_WIDTH" 200) rfl)
  c_GREAT := He.str_ok X G (c.fact 71 (f := .str "GREAT" "ABCDEFGHIJKLMNOPQRSTUVWXYZ") rfl)
  c_MOST_HEIGHT := He.int_ok X G (c.fact 72 (f := .int "MOST_HEIGHT" 100) rfl)
  c_LETTERS := He.str_ok X G (c.fact 73 (f := .str "LETTERS" "abcdefghijklmnopqrstuvwxyzABCDEFGHIJKLMNOPQRSTUVWXYZ0123456789") rfl)
  g_MOVES := He.glo_ok X G (c.fact 74 (f := .glo "MOVES") rfl)
  g_VERTICAL := He.glo_ok X G (c.fact 75 (f := .glo "VERTICAL") rfl)
  f_abs := He.free_ok X G (c.fact 76 (f := .free "abs") rfl)
  f_all := He.free_ok X G (c.fact 77 (f := .free "all") rfl)
  f_len := He.free_ok X G (c.fact 78 (f := .free "len") rfl)
  f_list := He.free_ok X G (c.fact 79 (f := .free "list") rfl)
  f_max := He.free_ok X G (c.fact 80 (f := .free "max") rfl)
  f_min := He.free_ok X G (c.fact 81 (f := .free "min") rfl)
  f_ord := He.free_ok X G (c.fact 82 (f := .free "ord") rfl)
  f_range := He.free_ok X G (c.fact 83 (f := .free "range") rfl)
  f_sorted := He.free_ok X G (c.fact 84 (f := .free "sorted") rfl)
  x_CaretError := exk_ok X G (c.fact 21 (f := .glo "CaretError") rfl) (c.fact 85 (f := .exc "CaretError") rfl)
  x_BadText := exk_ok X G (c.fact 22 (f := .glo "BadText") rfl) (c.fact 86 (f := .exc "BadText") rfl)
  x_BadSize := exk_ok X G (c.fact 23 (f := .glo "BadSize") rfl) (c.fact 87 (f := .exc "BadSize") rfl)
  x_BadPlace := exk_ok X G (c.fact 24 (f := .glo "BadPlace") rfl) (c.fact 88 (f := .exc "BadPlace") rfl)
  x_BadMove := exk_ok X G (c.fact 25 (f := .glo "BadMove") rfl) (c.fact 89 (f := .exc "BadMove") rfl)
theorem hfacts {P : Program} {w : World} {K : PySem.W.Frag} {mg : Str → Option Value} {base : Heap} (TT : Txt K mg) (c : He.SaysD fas dfs K) : Fn P w K mg base CX0 11 "law" ["script"] (sp_law K) := by
  have F__wall : Fn P w K mg base (L2.CX P w) 1 "_wall" ["k"] sp_none := ok__wall TT  (c.def_ 0 (d := ⟨("_wall", none), "_wall", "_wall", defArgs s__wall, defBody s__wall, defScope s__wall, [], []⟩) rfl)
  have F_is_text : Fn P w K mg base CX0 1 "is_text" ["text"] (sp_is_text K) := ok_is_text TT  (c.def_ 1 (d := ⟨("is_text", none), "is_text", "is_text", defArgs s_is_text, defBody s_is_text, defScope s_is_text, [], []⟩) rfl)
  have F_look_text : Fn P w K mg base (L2.CX P w) 2 "look_text" ["text"] (sp_look_text K) := ok_look_text TT F_is_text (c.def_ 2 (d := ⟨("look_text", none), "look_text", "look_text", defArgs s_look_text, defBody s_look_text, defScope s_look_text, [], []⟩) rfl)
  have F_look_width : Fn P w K mg base (L2.CX P w) 1 "look_width" ["width"] (sp_look_width K) := ok_look_width TT  (c.def_ 3 (d := ⟨("look_width", none), "look_width", "look_width", defArgs s_look_width, defBody s_look_width, defScope s_look_width, [], []⟩) rfl)
  have F_wide : Fn P w K mg base CX0 1 "wide" ["text"] (sp_wide K) := ok_wide TT  (c.def_ 4 (d := ⟨("wide", none), "wide", "wide", defArgs s_wide, defBody s_wide, defScope s_wide, [], []⟩) rfl)
  have F_Row_init : Mkr P w K mg base CX0 1 "Row" ["self", "start", "end", "is_soft"] (sp_Row_init K) := ok_Row_init TT  (c.def_ 5 (d := ⟨("Row", some "__init__"), "__init__", "Row.__init__", defArgs s_Row_init, defBody s_Row_init, defScope s_Row_init, [], []⟩) rfl)
  have F_Row_told : Mt P w K mg base CX0 1 "Row" "told" ["self"] (sp_Row_told K) := ok_Row_told TT  (c.def_ 6 (d := ⟨("Row", some "told"), "told", "Row.told", defArgs s_Row_told, defBody s_Row_told, defScope s_Row_told, [], []⟩) rfl)
  have F_fitting : Fn P w K mg base CX0 2 "fitting" ["text", "start", "last", "width"] (sp_fitting K) := ok_fitting TT F_wide (c.def_ 7 (d := ⟨("fitting", none), "fitting", "fitting", defArgs s_fitting, defBody s_fitting, defScope s_fitting, [], []⟩) rfl)
  have F_row_end : Fn P w K mg base CX0 3 "row_end" ["text", "start", "last", "width"] (sp_row_end K) := ok_row_end TT F_fitting (c.def_ 8 (d := ⟨("row_end", none), "row_end", "row_end", defArgs s_row_end, defBody s_row_end, defScope s_row_end, [], []⟩) rfl)
  have F_paragraph_rows : Fn P w K mg base CX0 4 "paragraph_rows" ["text", "start", "last", "width"] (sp_paragraph_rows K) := ok_paragraph_rows TT F_row_end F_Row_init (c.def_ 9 (d := ⟨("paragraph_rows", none), "paragraph_rows", "paragraph_rows", defArgs s_paragraph_rows, defBody s_paragraph_rows, defScope s_paragraph_rows, [], []⟩) rfl)
  have F_paragraphs : Fn P w K mg base CX0 1 "paragraphs" ["text"] (sp_paragraphs K) := ok_paragraphs TT  (c.def_ 10 (d := ⟨("paragraphs", none), "paragraphs", "paragraphs", defArgs s_paragraphs, defBody s_paragraphs, defScope s_paragraphs, [], []⟩) rfl)
  have F_rows_of : Fn P w K mg base CX0 5 "rows_of" ["text", "width"] (sp_rows_of K) := ok_rows_of TT F_paragraphs F_paragraph_rows (c.def_ 11 (d := ⟨("rows_of", none), "rows_of", "rows_of", defArgs s_rows_of, defBody s_rows_of, defScope s_rows_of, [], []⟩) rfl)
  have F_row_at : Fn P w K mg base CX0 1 "row_at" ["rows", "offset", "is_back"] (sp_row_at K) := ok_row_at TT  (c.def_ 12 (d := ⟨("row_at", none), "row_at", "row_at", defArgs s_row_at, defBody s_row_at, defScope s_row_at, [], []⟩) rfl)
  have F_column_of : Fn P w K mg base CX0 2 "column_of" ["text", "row", "offset"] (sp_column_of K) := ok_column_of TT F_wide (c.def_ 13 (d := ⟨("column_of", none), "column_of", "column_of", defArgs s_column_of, defBody s_column_of, defScope s_column_of, [], []⟩) rfl)
  have F_offset_at : Fn P w K mg base CX0 3 "offset_at" ["text", "row", "column"] (sp_offset_at K) := ok_offset_at TT F_column_of (c.def_ 14 (d := ⟨("offset_at", none), "offset_at", "offset_at", defArgs s_offset_at, defBody s_offset_at, defScope s_offset_at, [], []⟩) rfl)
  have F_look_offset : Fn P w K mg base (L2.CX P w) 1 "look_offset" ["text", "offset"] (sp_look_offset K) := ok_look_offset TT  (c.def_ 15 (d := ⟨("look_offset", none), "look_offset", "look_offset", defArgs s_look_offset, defBody s_look_offset, defScope s_look_offset, [], []⟩) rfl)
  have F_is_soft_end : Fn P w K mg base CX0 1 "is_soft_end" ["rows", "number", "offset"] (sp_is_soft_end K) := ok_is_soft_end TT  (c.def_ 16 (d := ⟨("is_soft_end", none), "is_soft_end", "is_soft_end", defArgs s_is_soft_end, defBody s_is_soft_end, defScope s_is_soft_end, [], []⟩) rfl)
  have F_Sheet_init : Mkr P w K mg base (L2.CX P w) 3 "Sheet" ["self", "text", "width", "height"] (sp_Sheet_init K) := ok_Sheet_init TT F_look_text F_look_width (c.def_ 17 (d := ⟨("Sheet", some "__init__"), "__init__", "Sheet.__init__", defArgs s_Sheet_init, defBody s_Sheet_init, defScope s_Sheet_init, [], []⟩) rfl)
  have F_Sheet_text : Mt P w K mg base CX0 1 "Sheet" "text" ["self"] (sp_Sheet_text K) := ok_Sheet_text TT  (c.def_ 18 (d := ⟨("Sheet", some "text"), "text", "Sheet.text", defArgs s_Sheet_text, defBody s_Sheet_text, defScope s_Sheet_text, [], []⟩) rfl)
  have F_Sheet_rows : Mt P w K mg base CX0 6 "Sheet" "rows" ["self"] (sp_Sheet_rows K) := ok_Sheet_rows TT F_rows_of (c.def_ 19 (d := ⟨("Sheet", some "rows"), "rows", "Sheet.rows", defArgs s_Sheet_rows, defBody s_Sheet_rows, defScope s_Sheet_rows, [], []⟩) rfl)
  have F_Sheet_at : Mt P w K mg base CX0 7 "Sheet" "at" ["self"] (sp_Sheet_at K) := ok_Sheet_at TT F_Sheet_rows F_row_at F_column_of (c.def_ 20 (d := ⟨("Sheet", some "at"), "at", "Sheet.at", defArgs s_Sheet_at, defBody s_Sheet_at, defScope s_Sheet_at, [], []⟩) rfl)
  have F_Sheet_chosen : Mt P w K mg base CX0 1 "Sheet" "chosen" ["self"] (sp_Sheet_chosen K) := ok_Sheet_chosen TT  (c.def_ 21 (d := ⟨("Sheet", some "chosen"), "chosen", "Sheet.chosen", defArgs s_Sheet_chosen, defBody s_Sheet_chosen, defScope s_Sheet_chosen, [], []⟩) rfl)
  have F_Sheet_chosen_text : Mt P w K mg base CX0 1 "Sheet" "chosen_text" ["self"] sp_none := ok_Sheet_chosen_text TT  (c.def_ 22 (d := ⟨("Sheet", some "chosen_text"), "chosen_text", "Sheet.chosen_text", defArgs s_Sheet_chosen_text, defBody s_Sheet_chosen_text, defScope s_Sheet_chosen_text, [], []⟩) rfl)
  have F_Sheet_scroll : Mt P w K mg base CX0 7 "Sheet" "scroll" ["self"] (sp_Sheet_scroll K) := ok_Sheet_scroll TT F_Sheet_rows F_row_at (c.def_ 24 (d := ⟨("Sheet", some "scroll"), "scroll", "Sheet.scroll", defArgs s_Sheet_scroll, defBody s_Sheet_scroll, defScope s_Sheet_scroll, [], []⟩) rfl)
  have F_Sheet_put : Mt P w K mg base CX0 8 "Sheet" "put" ["self", "offset", "is_back", "is_choosing"] (sp_Sheet_put K) := ok_Sheet_put TT F_Sheet_rows F_row_at F_is_soft_end F_Sheet_scroll (c.def_ 23 (d := ⟨("Sheet", some "put"), "put", "Sheet.put", defArgs s_Sheet_put, defBody s_Sheet_put, defScope s_Sheet_put, [], []⟩) rfl)
  have F_Sheet_go : Mt P w K mg base (L2.CX P w) 9 "Sheet" "go" ["self", "offset"] (sp_Sheet_go K) := ok_Sheet_go TT F_look_offset F_Sheet_put (c.def_ 25 (d := ⟨("Sheet", some "go"), "go", "Sheet.go", defArgs s_Sheet_go, defBody s_Sheet_go, defScope s_Sheet_go, [], []⟩) rfl)
  have F_Sheet_choose : Mt P w K mg base (L2.CX P w) 1 "Sheet" "choose" ["self", "first", "last"] sp_none := ok_Sheet_choose TT  (c.def_ 26 (d := ⟨("Sheet", some "choose"), "choose", "Sheet.choose", defArgs s_Sheet_choose, defBody s_Sheet_choose, defScope s_Sheet_choose, [], []⟩) rfl)
  have F_Sheet_point : Mt P w K mg base (L2.CX P w) 1 "Sheet" "point" ["self", "row", "column", "is_choosing"] sp_none := ok_Sheet_point TT  (c.def_ 27 (d := ⟨("Sheet", some "point"), "point", "Sheet.point", defArgs s_Sheet_point, defBody s_Sheet_point, defScope s_Sheet_point, [], []⟩) rfl)
  have F_Sheet_is_letter : Mt P w K mg base CX0 1 "Sheet" "is_letter" ["self", "offset"] (sp_Sheet_is_letter K) := ok_Sheet_is_letter TT  (c.def_ 28 (d := ⟨("Sheet", some "is_letter"), "is_letter", "Sheet.is_letter", defArgs s_Sheet_is_letter, defBody s_Sheet_is_letter, defScope s_Sheet_is_letter, [], []⟩) rfl)
  have F_Sheet_word_right : Mt P w K mg base CX0 2 "Sheet" "word_right" ["self", "offset"] (sp_Sheet_word_right K) := ok_Sheet_word_right TT F_Sheet_is_letter (c.def_ 29 (d := ⟨("Sheet", some "word_right"), "word_right", "Sheet.word_right", defArgs s_Sheet_word_right, defBody s_Sheet_word_right, defScope s_Sheet_word_right, [], []⟩) rfl)
  have F_Sheet_word_left : Mt P w K mg base CX0 2 "Sheet" "word_left" ["self", "offset"] (sp_Sheet_word_left K) := ok_Sheet_word_left TT F_Sheet_is_letter (c.def_ 30 (d := ⟨("Sheet", some "word_left"), "word_left", "Sheet.word_left", defArgs s_Sheet_word_left, defBody s_Sheet_word_left, defScope s_Sheet_word_left, [], []⟩) rfl)
  have F_Sheet_flat_goal : Mt P w K mg base CX0 3 "Sheet" "flat_goal" ["self", "move"] (sp_Sheet_flat_goal K) := ok_Sheet_flat_goal TT F_Sheet_word_left F_Sheet_word_right (c.def_ 31 (d := ⟨("Sheet", some "flat_goal"), "flat_goal", "Sheet.flat_goal", defArgs s_Sheet_flat_goal, defBody s_Sheet_flat_goal, defScope s_Sheet_flat_goal, [], []⟩) rfl)
  have F_Sheet_move_rows : Mt P w K mg base CX0 9 "Sheet" "move_rows" ["self", "many", "is_choosing"] (sp_Sheet_move_rows K) := ok_Sheet_move_rows TT F_Sheet_rows F_row_at F_column_of F_Sheet_put F_offset_at F_is_soft_end (c.def_ 33 (d := ⟨("Sheet", some "move_rows"), "move_rows", "Sheet.move_rows", defArgs s_Sheet_move_rows, defBody s_Sheet_move_rows, defScope s_Sheet_move_rows, [], []⟩) rfl)
  have F_Sheet_move : Mt P w K mg base (L2.CX P w) 10 "Sheet" "move" ["self", "move", "is_choosing"] (sp_Sheet_move K) := ok_Sheet_move TT F_Sheet_chosen F_Sheet_move_rows F_Sheet_rows F_row_at F_Sheet_put F_Sheet_flat_goal (c.def_ 32 (d := ⟨("Sheet", some "move"), "move", "Sheet.move", defArgs s_Sheet_move, defBody s_Sheet_move, defScope s_Sheet_move, [], []⟩) rfl)
  have F_Sheet_erase : Mt P w K mg base (L2.CX P w) 1 "Sheet" "erase" ["self", "move"] sp_none := ok_Sheet_erase TT  (c.def_ 37 (d := ⟨("Sheet", some "erase"), "erase", "Sheet.erase", defArgs s_Sheet_erase, defBody s_Sheet_erase, defScope s_Sheet_erase, [], []⟩) rfl)
  have F_Sheet_resize : Mt P w K mg base (L2.CX P w) 1 "Sheet" "resize" ["self", "width", "height"] sp_none := ok_Sheet_resize TT  (c.def_ 38 (d := ⟨("Sheet", some "resize"), "resize", "Sheet.resize", defArgs s_Sheet_resize, defBody s_Sheet_resize, defScope s_Sheet_resize, [], []⟩) rfl)
  have F_Sheet_mark : Mt P w K mg base (L2.CX P w) 1 "Sheet" "mark" ["self", "name", "offset"] sp_none := ok_Sheet_mark TT  (c.def_ 39 (d := ⟨("Sheet", some "mark"), "mark", "Sheet.mark", defArgs s_Sheet_mark, defBody s_Sheet_mark, defScope s_Sheet_mark, [], []⟩) rfl)
  have F_Sheet_marks : Mt P w K mg base CX0 1 "Sheet" "marks" ["self"] (sp_Sheet_marks K) := ok_Sheet_marks TT  (c.def_ 40 (d := ⟨("Sheet", some "marks"), "marks", "Sheet.marks", defArgs s_Sheet_marks, defBody s_Sheet_marks, defScope s_Sheet_marks, [], []⟩) rfl)
  have F_Sheet_view : Mt P w K mg base CX0 1 "Sheet" "view" ["self"] sp_none := ok_Sheet_view TT  (c.def_ 41 (d := ⟨("Sheet", some "view"), "view", "Sheet.view", defArgs s_Sheet_view, defBody s_Sheet_view, defScope s_Sheet_view, [], []⟩) rfl)
  have F_carried : Fn P w K mg base CX0 1 "carried" ["offset", "first", "last", "many"] (sp_carried K) := ok_carried TT  (c.def_ 42 (d := ⟨("carried", none), "carried", "carried", defArgs s_carried, defBody s_carried, defScope s_carried, [], []⟩) rfl)
  have F_Sheet_set_between : Mt P w K mg base CX0 2 "Sheet" "set_between" ["self", "first", "last", "new"] (sp_Sheet_set_between K) := ok_Sheet_set_between TT F_carried (c.def_ 35 (d := ⟨("Sheet", some "set_between"), "set_between", "Sheet.set_between", defArgs s_Sheet_set_between, defBody s_Sheet_set_between, defScope s_Sheet_set_between, [], []⟩) rfl)
  have F_Sheet_change : Mt P w K mg base (L2.CX P w) 3 "Sheet" "change" ["self", "first", "last", "new"] (sp_Sheet_change K) := ok_Sheet_change TT F_is_text F_Sheet_set_between (c.def_ 34 (d := ⟨("Sheet", some "change"), "change", "Sheet.change", defArgs s_Sheet_change, defBody s_Sheet_change, defScope s_Sheet_change, [], []⟩) rfl)
  have F_Sheet_write : Mt P w K mg base (L2.CX P w) 9 "Sheet" "write" ["self", "new"] (sp_Sheet_write K) := ok_Sheet_write TT F_Sheet_chosen F_Sheet_change F_Sheet_put (c.def_ 36 (d := ⟨("Sheet", some "write"), "write", "Sheet.write", defArgs s_Sheet_write, defBody s_Sheet_write, defScope s_Sheet_write, [], []⟩) rfl)
  have F__law_cell : Fn P w K mg base CX0 1 "_law_cell" ["script", "k"] (sp__law_cell K) := ok__law_cell TT  (c.def_ 43 (d := ⟨("_law_cell", none), "_law_cell", "_law_cell", defArgs s__law_cell, defBody s__law_cell, defScope s__law_cell, [], []⟩) rfl)
  have F__law_mix : Fn P w K mg base CX0 2 "_law_mix" ["script", "k"] (sp__law_mix K) := ok__law_mix TT F__law_cell (c.def_ 44 (d := ⟨("_law_mix", none), "_law_mix", "_law_mix", defArgs s__law_mix, defBody s__law_mix, defScope s__law_mix, [], []⟩) rfl)
  have F__law_draw : Fn P w K mg base CX0 3 "_law_draw" ["script", "town", "many"] (sp__law_draw K) := ok__law_draw TT F__law_mix (c.def_ 45 (d := ⟨("_law_draw", none), "_law_draw", "_law_draw", defArgs s__law_draw, defBody s__law_draw, defScope s__law_draw, [], []⟩) rfl)
  have F__law_pick : Fn P w K mg base CX0 4 "_law_pick" ["script", "town", "some"] (sp__law_pick K) := ok__law_pick TT F__law_draw (c.def_ 46 (d := ⟨("_law_pick", none), "_law_pick", "_law_pick", defArgs s__law_pick, defBody s__law_pick, defScope s__law_pick, [], []⟩) rfl)
  have F_law : Fn P w K mg base CX0 11 "law" ["script"] (sp_law K) := ok_law TT F__law_pick F__law_draw F_Sheet_init F_Sheet_move F_Sheet_at F_Sheet_chosen F_Sheet_go (c.def_ 47 (d := ⟨("law", none), "law", "law", defArgs s_law, defBody s_law, defScope s_law, [], []⟩) rfl)
  exact F_law
end Cr
open PySem PySem.W PySem.Calls PyProof.Rows
theorem PySem.Challenge.cw_caretrows_k25_whole_words_holds : PySem.Challenge.rw_caretrows_k25_whole_words.Holds := by
  w_on; o_law
  refine HandSHeadRun.head_any (r := OpenLaw.row PySem.Challenge.rw_caretrows_k25_whole_words) (q := view (OpenLaw.row PySem.Challenge.rw_caretrows_k25_whole_words).prog [39]) (H := Cr.hkk) (ob := Cr.hob) (M := 8000) (loose := Cr.loose) (d := HandSHeadRun.topDef (OpenLaw.row PySem.Challenge.rw_caretrows_k25_whole_words).prog 39) (kwd := []) Cr.hob_eq
    (by kernel_rfl) (fun s => by kernel_rfl) Cr.hrun (by kernel_rfl) (by kernel_rfl) (by kernel_rfl) (by rfl) (by first | assumption | decide +kernel) (by decide +kernel) ⟨rfl, rfl, rfl, rfl, rfl, by decide +kernel⟩ ?hw ?hc
  case hw => w_witness2
  case hc =>
    refine L2.walk_ofE (l := PySem.Challenge.rw_caretrows_k25_whole_words) (n := 63) (k := 11) (x := "script") (CX := L2.CX0) rfl (by decide) (by kernel_rfl) ⟨rfl, by decide, by decide⟩ ?F (fun _ _ _ _ z => z)
    intro w mg fa h Y G hmg0
    obtain ⟨K, KX, c⟩ := Y
    have hmg : mg ("law" : PySem.Str) = some (.ref fa) := by
      have e : (HandSHeadRun.topDef (OpenLaw.row PySem.Challenge.rw_caretrows_k25_whole_words).prog 39).name = ("law" : PySem.Str) := by kernel_rfl
      rw [← e]
      exact hmg0
    have TT := Cr.htxt KX G c.t.d
    have eg := hmg.symm.trans TT.g_law
    cases eg
    exact Cr.law_end KX (fun base => Cr.hfacts (P := (PySem.Challenge.rw_caretrows_k25_whole_words).prog) (w := w) (base := base) TT c.t.d) (Cr.law_in TT (Cr.sheetAll_ok c.more))


