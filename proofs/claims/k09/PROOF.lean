import PyProof.Rows.All
import Wide.All
import OpenK.AllK
import Wide.FinOn
import HandS.Words
import HandS.Head0
import HandS.Head1
import HandS.Head2
import HandS.HeadEnd
import HandS.HeadHook4
import HandS.HeadWalk
import HandS.NestedK
import PySem.Challenge.RW_cardstrokes_k09_rules_told_back
import HandS.ForMost
import HandS.ForExc
import HandS.Walk
import HandS.Lambda
import HandS.Nested
import PyProof.CodeObjX
import HandS.TupAny
import HandS.IsInst
import HandS.Deep
import HandS.TupMul
import HandS.TupLe
import HandS.ExcCtx
import KE.SortData
import KE.GoesEnum
import HandS.Hot
import HandS.HotCalls
import HandS.ExcIs
import HandS.Text
import HandS.FStr
import HandS.CallLocal
import HandS.Style
import PyProof.StrOps2
import HandS.SetFor
import HandS.Strs
set_option Elab.async false
set_option linter.all false
set_option maxRecDepth 100000
set_option maxHeartbeats 1000000
/-! The head of the program, run ahead of all else (its peak of memory). -/
namespace DL
open PySem PySem.Spec PyProof.Rows L2
def excB (K : PySem.W.Frag) (c : Str) : Bool :=
  He.eqO (PySem.W.findIn K (.ref (He.ga K c)) "__getattribute__") (some (some (.builtin "BaseException.__getattribute__"))) && (He.eqO (PySem.W.findIn K (.ref (He.ga K c)) "__getattr__") (some none) && (decide (PySem.W.subIn K (.ref (He.ga K c)) (.type "BaseException") = some true) && (PySem.W.hasDictIn K (He.ga K c) &&
  (He.eqO (PySem.W.findIn K (.ref (He.ga K c)) "__class__") (some (some (.builtin "object.__class__"))) && (He.eqO (PySem.W.specialIn K (.builtin "object.__class__") "__get__") (some (some (.builtin "getset_descriptor.__get__"))) && (decide (PySem.W.takesIn K (.builtin "object.__class__") = some true) &&
  (decide (PySem.W.mroIn K (He.ga K c) (.type "object") = some true) && (decide (PySem.W.exmOne K (.ref (He.ga K c)) (.ref (He.ga K "StrokeError")) = some true) && decide (PySem.W.kitOne K (.ref (He.ga K c)) (.type "ValueError") = some true)))))))))
def errL : List (Str × Str) := [("InvalidRule", "rule"), ("InvalidStart", "start"), ("InvalidPrizes", "prizes"), ("InvalidSkill", "skill"), ("InvalidRow", "row"), ("InvalidNumber", "number"), ("InvalidWords", "words"), ("InvalidIndex", "index"), ("InvalidScore", "score"), ("InvalidSeen", "seen"), ("InvalidCards", "cards"), ("InvalidText", "text"), ("TooMany", "many"), ("Unlike", "unlike"), ("NothingToUndo", "undo")]
def exB (K : PySem.W.Frag) : Bool := errL.all fun p => excB K p.1 && errL.all fun q => decide (PySem.W.kitOne K (.ref (He.ga K p.1)) (.ref (He.ga K q.1)) = some (decide (p.1 = q.1)))
end DL
namespace DL.WK09
open PySem PySem.Spec PyProof.Rows L2
def topS (i : Nat) : Stmt := PySem.Challenge.pw_cardstrokes_k09_rules_told_back.main.body.getD i (.Pass ⟨0, 0, 0, 0⟩)
abbrev s_is_whole : Stmt := topS 22
abbrev s_fits_row : Stmt := topS 23
abbrev s_need_start : Stmt := topS 24
abbrev s_need_row : Stmt := topS 25
abbrev s_first_state : Stmt := topS 26
abbrev s_moved : Stmt := topS 27
abbrev s_went : Stmt := topS 28
abbrev s_given_behind : Stmt := topS 29
abbrev s_is_card : Stmt := topS 31
abbrev s_need_cards : Stmt := topS 32
abbrev s_all_rules : Stmt := topS 33
abbrev s_fitting : Stmt := topS 34
abbrev s_rules_told : Stmt := topS 35
abbrev s_surely : Stmt := topS 36
abbrev s__law_cell : Stmt := topS 38
abbrev s__law_draws : Stmt := topS 39
abbrev s__law_bag : Stmt := topS 40
abbrev s__law_take : Stmt := topS 41
abbrev s__law_choice : Stmt := topS 42
abbrev s__law_known : Stmt := topS 43
abbrev s__law_rule : Stmt := topS 44
abbrev s__law_row : Stmt := topS 45
abbrev s__law_next : Stmt := topS 46
abbrev s__law_givens : Stmt := topS 47
abbrev s__law_named_error : Stmt := topS 48
abbrev s__law_error : Stmt := topS 49
abbrev s__law_all_refused : Stmt := topS 50
abbrev s__law_bad_starts : Stmt := topS 51
abbrev s__law_bad_rows : Stmt := topS 52
abbrev s__law_every_rule : Stmt := topS 53
abbrev s__law_fitting : Stmt := topS 54
abbrev s__law_cards : Stmt := topS 55
abbrev s__law_refused : Stmt := topS 56
abbrev s_law : Stmt := topS 57
def tfL : List He.Defn := [("_law_all_refused", none), ("_law_refused", none)]
def fnL : List He.DefD := [⟨("is_whole", none), "is_whole", "is_whole", defArgs s_is_whole, defBody s_is_whole, defScope s_is_whole, [], []⟩,
  ⟨("fits_row", none), "fits_row", "fits_row", defArgs s_fits_row, defBody s_fits_row, defScope s_fits_row, [], []⟩,
  ⟨("need_start", none), "need_start", "need_start", defArgs s_need_start, defBody s_need_start, defScope s_need_start, [], []⟩,
  ⟨("need_row", none), "need_row", "need_row", defArgs s_need_row, defBody s_need_row, defScope s_need_row, [], []⟩,
  ⟨("first_state", none), "first_state", "first_state", defArgs s_first_state, defBody s_first_state, defScope s_first_state, [], []⟩,
  ⟨("moved", none), "moved", "moved", defArgs s_moved, defBody s_moved, defScope s_moved, [], []⟩,
  ⟨("went", none), "went", "went", defArgs s_went, defBody s_went, defScope s_went, [], []⟩,
  ⟨("given_behind", none), "given_behind", "given_behind", defArgs s_given_behind, defBody s_given_behind, defScope s_given_behind, [], []⟩,
  ⟨("is_card", none), "is_card", "is_card", defArgs s_is_card, defBody s_is_card, defScope s_is_card, [], []⟩,
  ⟨("need_cards", none), "need_cards", "need_cards", defArgs s_need_cards, defBody s_need_cards, defScope s_need_cards, [], []⟩,
  ⟨("all_rules", none), "all_rules", "all_rules", defArgs s_all_rules, defBody s_all_rules, defScope s_all_rules, [], []⟩,
  ⟨("fitting", none), "fitting", "fitting", defArgs s_fitting, defBody s_fitting, defScope s_fitting, [], []⟩,
  ⟨("rules_told", none), "rules_told", "rules_told", defArgs s_rules_told, defBody s_rules_told, defScope s_rules_told, [], []⟩,
  ⟨("surely", none), "surely", "surely", defArgs s_surely, defBody s_surely, defScope s_surely, [], []⟩,
  ⟨("_law_cell", none), "_law_cell", "_law_cell", defArgs s__law_cell, defBody s__law_cell, defScope s__law_cell, [], []⟩,
  ⟨("_law_draws", none), "_law_draws", "_law_draws", defArgs s__law_draws, defBody s__law_draws, defScope s__law_draws, [], []⟩,
  ⟨("_law_bag", none), "_law_bag", "_law_bag", defArgs s__law_bag, defBody s__law_bag, defScope s__law_bag, [], []⟩,
  ⟨("_law_take", none), "_law_take", "_law_take", defArgs s__law_take, defBody s__law_take, defScope s__law_take, [], []⟩,
  ⟨("_law_choice", none), "_law_choice", "_law_choice", defArgs s__law_choice, defBody s__law_choice, defScope s__law_choice, [], []⟩,
  ⟨("_law_known", none), "_law_known", "_law_known", defArgs s__law_known, defBody s__law_known, defScope s__law_known, [], []⟩,
  ⟨("_law_rule", none), "_law_rule", "_law_rule", defArgs s__law_rule, defBody s__law_rule, defScope s__law_rule, [], []⟩,
  ⟨("_law_row", none), "_law_row", "_law_row", defArgs s__law_row, defBody s__law_row, defScope s__law_row, [], []⟩,
  ⟨("_law_next", none), "_law_next", "_law_next", defArgs s__law_next, defBody s__law_next, defScope s__law_next, [], []⟩,
  ⟨("_law_givens", none), "_law_givens", "_law_givens", defArgs s__law_givens, defBody s__law_givens, defScope s__law_givens, [], []⟩,
  ⟨("_law_named_error", none), "_law_named_error", "_law_named_error", defArgs s__law_named_error, defBody s__law_named_error, defScope s__law_named_error, [], []⟩,
  ⟨("_law_error", none), "_law_error", "_law_error", defArgs s__law_error, defBody s__law_error, defScope s__law_error, [], []⟩,
  ⟨("_law_all_refused", none), "_law_all_refused", "_law_all_refused", defArgs s__law_all_refused, defBody s__law_all_refused, defScope s__law_all_refused, [], []⟩,
  ⟨("_law_bad_starts", none), "_law_bad_starts", "_law_bad_starts", defArgs s__law_bad_starts, defBody s__law_bad_starts, defScope s__law_bad_starts, [], []⟩,
  ⟨("_law_bad_rows", none), "_law_bad_rows", "_law_bad_rows", defArgs s__law_bad_rows, defBody s__law_bad_rows, defScope s__law_bad_rows, [], []⟩,
  ⟨("_law_every_rule", none), "_law_every_rule", "_law_every_rule", defArgs s__law_every_rule, defBody s__law_every_rule, defScope s__law_every_rule, [], []⟩,
  ⟨("_law_fitting", none), "_law_fitting", "_law_fitting", defArgs s__law_fitting, defBody s__law_fitting, defScope s__law_fitting, [], []⟩,
  ⟨("_law_cards", none), "_law_cards", "_law_cards", defArgs s__law_cards, defBody s__law_cards, defScope s__law_cards, [], []⟩,
  ⟨("_law_refused", none), "_law_refused", "_law_refused", defArgs s__law_refused, defBody s__law_refused, defScope s__law_refused, [], []⟩,
  ⟨("law", none), "law", "law", defArgs s_law, defBody s_law, defScope s_law, [], []⟩]
def faL : List He.Fa := [.glo "is_whole", .glo "fits_row", .glo "need_start", .glo "need_row", .glo "first_state", .glo "moved", .glo "went", .glo "given_behind", .glo "is_card", .glo "need_cards", .glo "all_rules", .glo "fitting", .glo "rules_told", .glo "surely", .glo "_law_cell", .glo "_law_draws", .glo "_law_bag", .glo "_law_take", .glo "_law_choice", .glo "_law_known", .glo "_law_rule", .glo "_law_row", .glo "_law_next", .glo "_law_givens", .glo "_law_named_error", .glo "_law_error", .glo "_law_all_refused", .glo "_law_bad_starts", .glo "_law_bad_rows", .glo "_law_every_rule", .glo "_law_fitting", .glo "_law_cards", .glo "_law_refused", .glo "law", .free "ValueError", .free "all", .free "bool", .free "int", .free "isinstance", .free "len", .free "list", .free "max", .free "min", .free "range", .free "set", .free "sorted", .free "str", .free "sum", .free "tuple", .free "zip", .int "MOST" 3, .int "ROUNDS" 40, .str "SIGNS" "0123", .glo "WORDS", .glo "InvalidCards", .exc "InvalidCards", .glo "InvalidRow", .exc "InvalidRow", .glo "InvalidStart", .exc "InvalidStart", .glo "StrokeError", .glo "InvalidRule", .glo "InvalidPrizes", .glo "InvalidSkill", .glo "InvalidNumber", .glo "InvalidWords", .glo "InvalidIndex", .glo "InvalidScore", .glo "InvalidSeen", .glo "InvalidText", .glo "TooMany", .glo "Unlike", .glo "NothingToUndo"]
def exL (K : PySem.W.Frag) : Bool := He.tupB K "WORDS" [.str "down", .str "up"] && exB K
abbrev RR : PySem.W.OpenRow := PySem.W.OpenLaw.row PySem.Challenge.rw_cardstrokes_k09_rules_told_back
abbrev hk : PySem.W.Hook := He.hookX 4 faL fnL [] tfL exL
def ob (s : PySem.W.SharedT) : He.AlX := He.obsX 4 faL fnL [] tfL exL (HandSHeadRun.getT s)
theorem ob_eq (s : PySem.W.SharedT) : ob s = hk.obs s.abs := He.obsX_eq (HandSHeadRun.getT_eq s)
def names0 : List Str := ["StrokeError", "InvalidRule", "InvalidStart", "InvalidPrizes", "InvalidSkill", "InvalidRow", "InvalidNumber", "InvalidWords", "InvalidIndex", "InvalidScore", "InvalidSeen", "InvalidCards", "InvalidText", "TooMany", "Unlike", "NothingToUndo", "WORDS", "SIGNS", "MOST", "ROUNDS", "is_whole", "fits_row", "need_start", "need_row", "first_state", "moved", "went", "given_behind", "is_card", "need_cards"]
def names1 : List Str := ["all_rules", "fitting", "rules_told", "surely", "_law_cell", "_law_draws", "_law_bag", "_law_take", "_law_choice", "_law_known", "_law_rule", "_law_row", "_law_next", "_law_givens", "_law_named_error", "_law_error", "_law_all_refused", "_law_bad_starts", "_law_bad_rows", "_law_every_rule", "_law_fitting", "_law_cards", "_law_refused"]
def namesL : List Str := names0 ++ names1
set_option maxHeartbeats 0 in
theorem run (w : World) : HandSHeadRun.RunEq RR (PySem.W.view RR.prog [57]) hk ob 12000 namesL w := by
  intro os
  kernel_rfl
end DL.WK09

set_option Elab.async false
set_option linter.all false
set_option maxRecDepth 100000
set_option maxHeartbeats 2000000
/-! Tables of code objects that have tables themselves; a lambda is made, also within a lambda. -/
namespace DL
open PySem PySem.Spec PyProof.Rows L2
/-- the code object at c: its name is q, its table lies at P -/
def CodeT (c : Addr) (q : Str) (P : Addr) : HO := .ext fun h => PySem.W.CodeHd h c P ∧ ∃ (o : Obj) (us : Array Value) (t : Tok), h.get? c = some o ∧ o.data = .fields us ∧ us[1]? = some (.str q t)
theorem codeT_ne {c P : Addr} {q : Str} (ps : Array Value) : CodeT c q P ≠ .tbl ps := fun z => by
  unfold CodeT at z
  cases z
def CoK (H : Hp) (c : Addr) (q : Str) : Prop := ∃ P, H c = some (CodeT c q P)
theorem CoK.keep {H H' : Hp} {c : Addr} {q : Str} (h : CoK H c q) (k : ∀ o, H c = some o → (∀ ps, o ≠ .tbl ps) → H' c = some o) : CoK H' c q := let ⟨P, e⟩ := h; ⟨P, k _ e codeT_ne⟩
theorem CoK.at {P : Program} {w : World} {H : Hp} {h : Heap} {c : Addr} {q : Str} (x : CoK H c q) (ok : HOk P w H h) : ∃ (o : Obj) (us : Array Value) (t : Tok), h.get? c = some o ∧ o.data = .fields us ∧ us[1]? = some (.str q t) :=
  let ⟨_, e⟩ := x; let ⟨⟨_, z⟩, _, _⟩ := ok c _ e; z
/-- a table of the second level, of the first -/
def Tab2 (nm : Nat → Nat → Str) (H : Hp) (P : Addr) : Prop := ∃ ps : Array Value, H P = some (.tbl ps) ∧ TriplesOk ps.toList ∧ ∀ (pos : Pos) (cv : Value), codeAmong pos ps.toList = some cv → ∃ c Pc, cv = .ref c ∧ H c = some (CodeT c (nm pos.line pos.col) Pc)
def Tab1 (nm : Nat → Nat → Str) (H : Hp) (P : Addr) : Prop := ∃ ps : Array Value, H P = some (.tbl ps) ∧ TriplesOk ps.toList ∧ ∀ (pos : Pos) (cv : Value), codeAmong pos ps.toList = some cv → ∃ c Pc, cv = .ref c ∧ H c = some (CodeT c (nm pos.line pos.col) Pc) ∧ Tab2 nm H Pc
theorem Tab1.two {nm : Nat → Nat → Str} {H : Hp} {P : Addr} (t : Tab1 nm H P) : Tab2 nm H P :=
  let ⟨ps, h1, h2, h3⟩ := t; ⟨ps, h1, h2, fun pos cv e => let ⟨c, Pc, e1, e2, _⟩ := h3 pos cv e; ⟨c, Pc, e1, e2⟩⟩
/-- the names by place, the tables of the first level -/
structure TQ where
  nm : Nat → Nat → Str
  ps : List Addr
def TabsQ (T : TQ) (H : Hp) : Prop := ∀ P ∈ T.ps, Tab1 T.nm H P
/-- tables and code objects are kept -/
structure TKeep (H H' : Hp) : Prop where
  tbl : ∀ b ps, H b = some (.tbl ps) → H' b = some (.tbl ps)
  ext : ∀ b φ, H b = some (.ext φ) → H' b = some (.ext φ)
section
variable {nm : Nat → Nat → Str} {H H' : Hp} {P : Addr} {T : TQ}
theorem Tab2.keep (k : TKeep H H') (t : Tab2 nm H P) : Tab2 nm H' P :=
  let ⟨ps, h1, h2, h3⟩ := t; ⟨ps, k.tbl _ _ h1, h2, fun pos cv e => let ⟨c, Pc, e1, e2⟩ := h3 pos cv e; ⟨c, Pc, e1, k.ext _ _ e2⟩⟩
theorem Tab1.keep (k : TKeep H H') (t : Tab1 nm H P) : Tab1 nm H' P :=
  let ⟨ps, h1, h2, h3⟩ := t; ⟨ps, k.tbl _ _ h1, h2, fun pos cv e => let ⟨c, Pc, e1, e2, e3⟩ := h3 pos cv e; ⟨c, Pc, e1, k.ext _ _ e2, e3.keep k⟩⟩
theorem TabsQ.keep (k : TKeep H H') (t : TabsQ T H) : TabsQ T H' := fun p hp => (t p hp).keep k
theorem TabsQ.ext (t : TabsQ T H) (e : ∀ b o, H b = some o → H' b = some o) : TabsQ T H' := t.keep ⟨fun b _ h => e b _ h, fun b _ h => e b _ h⟩
theorem Tab1.nil (h : H P = some (.tbl #[])) : Tab1 nm H P := ⟨#[], h, True.intro, fun pos cv e => by
  have z : codeAmong pos [] = some cv := e
  simp [codeAmong] at z⟩
end
theorem among_more {pos : Pos} {c : Value} : ∀ (l r : List Value), codeAmong pos l = some c → codeAmong pos (l ++ r) = some c := fun l r h => by
  fun_induction codeAmong pos l with
  | case1 a t b u x rest q =>
    simp only [List.cons_append, codeAmong]
    rw [if_pos q]
    exact h
  | case2 a t b u x rest q ih =>
    simp only [List.cons_append, codeAmong]
    rw [if_neg q]
    exact ih h
  | case3 l z => cases h
section
variable {M : Model} {A : Around} {E : Value → Shared → Prop} {s : Shared} {name qual : Str} {params : Arguments} {body : Expr} {scope : Scope} {env : Env} {c P : Addr} {ps : Array Value} {pos : Pos} {line0 : Nat} {mg : Str → Option Value} {clos : List (Str × Addr)} {Q : Value → Shared → Prop}
/-- a lambda's function is made, its code object is new; told of its table too -/
theorem lam_fresh (hcl : closureFor scope env = pure clos) (hge : env.globals = mainGlobals) (hg : s.heap.Ns mainGlobals mg) (hcode : env.code = .ref c) (C : PySem.W.CodeHd s.heap c P) (hP : s.heap.get? P = some { cls := .none, data := .fields ps }) (ht : TriplesOk ps.toList)
    (hnf : codeAmong pos ps.toList = none) (hgP : mainGlobals ≠ P) (hb : s.heap.BuiltinsAt mg P)
    (h : ∀ c' P' ctv h' tk, Heap.ExtBut P s.heap h' → s.heap.objs.size ≤ c' → c' < h'.objs.size → h'.CodeRec (.ref c') qual → h'.get? P = some { cls := .none, data := .fields (ps ++ #[rawInt pos.line, rawInt pos.col, .ref c']) } →
      s.heap.objs.size ≤ P' → PySem.W.CodeHd h' c' P' → h'.get? P' = some { cls := .none, data := .fields #[] } → Q (.ref h'.objs.size) { s with heap := h'.push (PySem.W.kla_obj name qual params body scope clos ((mg "__name__").getD .none) c' ctv), toks := tk }) :
    wpAny M A (makeFunction name qual params (.expr body) scope env [] [] [] pos line0) Q E s := by
  rw [makeFunction_eq]
  simp only [List.zip_nil_right, List.filterMap_nil, List.isEmpty_nil, if_true, pure_bind]
  obtain ⟨bm, ob, b1, b2, _, b3, b4, b5, b6, b7⟩ := hb
  unfold makeTail
  rw [hcl, hge]
  refine wpAny_bind (wpAny_pure ?_)
  cases clos with
  | nil =>
    rw [if_pos (show ([] : List (Str × Addr)).isEmpty = true from rfl)]
    refine wpAny_bind (wpAny_pure (wpAny_bind (wpAny_functionCodeX hcode (C.code hP ht) (C.tab hP) hnf fun c' h' tk x1 x2 x3 _ x4 x5 ⟨P', y1, y2, y3⟩ => ?_)))
    have g' := hg.extBut x1 hgP
    refine wpAny_bind (wpAny_builtinsFor g' b1 b2 (x1 _ _ b3 b4) b5 b6 b7 (wpAny_bind (wpAny_nsGet g' ?_)))
    exact wpAny_bind (wpAny_pure (wpAny_newObj_type (h c' P' .none h' tk x1 x2 x3 x4 x5.2 y1 (.of y2 y3) y3.2) (by size_fits)))
  | cons q r =>
    rw [if_neg (show ¬ (q :: r).isEmpty = true from fun z => nomatch z)]
    refine wpAny_bind (wpAny_newTextTuple ?_)
    have C' : ∀ o, PySem.W.CodeHd (s.heap.push o) c P := fun o => C.keeps fun _ _ e => Heap.get?_push_of_some _ e
    refine wpAny_bind (wpAny_functionCodeX hcode ((C' _).code (Heap.get?_push_of_some _ hP) ht) ((C' _).tab (Heap.get?_push_of_some _ hP)) hnf fun c' h' tk x1 x2 x3 _ x4 x5 ⟨P', y1, y2, y3⟩ => ?_)
    have g' := (hg.push _).extBut x1 hgP
    have x1' : Heap.ExtBut P s.heap h' := fun b o n e => x1 b o n (Heap.get?_push_of_some _ e)
    have x2' : s.heap.objs.size ≤ c' := Nat.le_trans (by rw [Heap.size_push]; omega) x2
    have y1' : s.heap.objs.size ≤ P' := Nat.le_trans (by rw [Heap.size_push]; omega) y1
    refine wpAny_bind (wpAny_builtinsFor g' b1 b2 (x1' _ _ b3 b4) b5 b6 b7 (wpAny_bind (wpAny_nsGet g' ?_)))
    exact wpAny_bind (wpAny_pure (wpAny_newObj_type (h c' P' _ h' tk x1' x2' x3 x4 x5.2 y1' (.of y2 y3) y3.2) (by size_fits)))
end
end DL

set_option Elab.async false
set_option linter.all false
set_option maxRecDepth 100000
set_option maxHeartbeats 2000000
/-! A lambda is made, at any level. -/
namespace DL
open PySem PySem.Spec PyProof.Rows L2
section
variable {X : Cx} {pins : List (Addr × Obj)} {σ : L2.St} {H : Hp} {s : Shared}
/-- the table's object is written, the code object at c and its own table at P' are new; all else is kept -/
theorem inv_table2 {P c P' : Addr} {q : Str} {ps more : Array Value} {h' : Heap} {t' : Nat} (I : Inv X pins σ H s) (hP : H P = some (.tbl ps)) (k : ∀ b o, b ≠ P → s.heap.get? b = some o → h'.get? b = some o)
    (hm : h'.get? P = some { cls := .none, data := .fields (ps ++ more) }) (hc : s.heap.objs.size ≤ c) (hc' : s.heap.objs.size ≤ P') (C : PySem.W.CodeHd h' c P') (ho : ∃ (o : Obj) (us : Array Value) (t : Tok), h'.get? c = some o ∧ o.data = .fields us ∧ us[1]? = some (.str q t)) (hp' : h'.get? P' = some { cls := .none, data := .fields #[] }) :
    Inv X pins σ (upd (upd (upd H P (.tbl (ps ++ more))) P' (.tbl #[])) c (CodeT c q P')) { s with heap := h', toks := t' } := by
  have nC : H c = none := I.hok.fresh hc
  have nT : H P' = none := I.hok.fresh hc'
  have nPc : P ≠ c := ne_of_none hP nC
  have nPT : P ≠ P' := ne_of_none hP nT
  have nCT : c ≠ P' := by
    obtain ⟨_, _, _, _, _, _, _, _, _, _, _, _, _, _, _, _, _, _, z⟩ := C
    exact z
  generalize hH1 : upd (upd (upd H P (.tbl (ps ++ more))) P' (.tbl #[])) c (CodeT c q P') = H1
  have at_ : ∀ b, b ≠ P → b ≠ c → b ≠ P' → H1 b = H b := fun b h1 h2 h3 => by rw [← hH1, upd_ne h2, upd_ne h3, upd_ne h1]
  have atP : H1 P = some (.tbl (ps ++ more)) := by rw [← hH1, upd_ne nPc, upd_ne nPT, upd_same]
  have atT : H1 P' = some (.tbl #[]) := by rw [← hH1, upd_ne (fun z => nCT z.symm), upd_same]
  have atC : H1 c = some (CodeT c q P') := by rw [← hH1, upd_same]
  have nP : ∀ b u, H b = some u → (∀ q, u ≠ .tbl q) → b ≠ P := fun b u e q z => by
    rw [z, hP] at e
    exact q ps (Option.some.inj e).symm
  have nN : ∀ b, H b = none → b ≠ P := fun b e z => by
    rw [z, hP] at e
    cases e
  have old : ∀ b o, s.heap.get? b = some o → b ≠ c ∧ b ≠ P' := fun b o e => ⟨fun z => by
    rw [z] at e
    exact Nat.lt_irrefl _ (Nat.lt_of_lt_of_le (Heap.lt_size e) hc), fun z => by
    rw [z] at e
    exact Nat.lt_irrefl _ (Nat.lt_of_lt_of_le (Heap.lt_size e) hc')⟩
  have sm : ∀ b u, H b = some u → b ≠ c ∧ b ≠ P' := fun b u e => ⟨ne_of_none e nC, ne_of_none e nT⟩
  have kp : ∀ b u, H b = some u → (∀ q, u ≠ .tbl q) → H1 b = some u := fun b u e n => by rw [at_ b (nP b u e n) (sm b u e).1 (sm b u e).2]; exact e
  refine I.step (g' := s.gens) (d' := s.drawn) (ch := []) (fun b hb => absurd hb (by simp)) (fun b o _ _ _ e n => k b o (nN b n) e) (fun b o _ _ _ e n => ⟨o.slots, k b o (nN b n) e⟩)
    (fun b o _ e n => by rw [at_ b (nN b n) (old b o e).1 (old b o e).2]; exact n) (fun b o _ e => ?_) (fun b xs e => kp b _ e fun _ z => nomatch z) (fun b o u e => kp b _ e fun _ z => nomatch z) (fun b qs e => ?_) (fun m hn => ?_) (fun b u e => ?_) I.bare
  · by_cases hb : b = P
    · rw [hb]
      exact ⟨_, hm⟩
    · exact ⟨o, k b o hb e⟩
  · by_cases hb : b = P
    · rw [hb, hP] at e
      cases e
      rw [hb, atP]
      exact ⟨more, rfl⟩
    · rw [at_ b hb (sm b _ e).1 (sm b _ e).2, e]
      exact ⟨#[], by simp⟩
  · obtain ⟨ob, es, ep, ho, r⟩ := hn
    exact ⟨ob, es, ep, k _ ob (nN _ I.free) ho, r⟩
  · by_cases hb : b = c
    · rw [hb, atC] at e
      cases e
      rw [hb]
      obtain ⟨oc, us, t, e1, e2, e3⟩ := ho
      refine ⟨⟨C, oc, us, t, e1, e2, e3⟩, ⟨oc, e1⟩, fun h1 h2 ⟨C1, oc, us, t, a, b, d⟩ st => ⟨?_, oc, us, t, st _ a, b, d⟩⟩
      obtain ⟨o, vs, file, tf, flags, tg, inF, text, tt, g1, r⟩ := C1
      exact ⟨o, vs, file, tf, flags, tg, inF, text, tt, st _ g1, r⟩
    · by_cases hb2 : b = P
      · rw [hb2, atP] at e
        cases e
        rw [hb2]
        exact hm
      · by_cases hb3 : b = P'
        · rw [hb3, atT] at e
          cases e
          rw [hb3]
          exact hp'
        · rw [at_ b hb2 hb hb3] at e
          refine (I.hok b u e).stay (fun d v hd q => k d v ?_ q) (fun d q => kp d _ q fun _ z => nomatch z) fun d xs q => kp d _ q fun _ z => nomatch z
          rcases hd with z | z
          · rw [z]
            exact hb2
          · exact nP d _ z (fun q z => by cases z)
theorem tab_upd {nm : Nat → Nat → Str} {P c P' : Addr} {q : Str} {pos : Pos} {ps : Array Value} (hP : H P = some (.tbl ps)) (ht : TriplesOk ps.toList) (nC : H c = none) (nT : H P' = none) (ne : c ≠ P') (hq : nm pos.line pos.col = q)
    (h2 : Tab2 nm H P) : (∀ Q, Tab2 nm H Q → Tab2 nm (upd (upd (upd H P (.tbl (ps ++ #[rawInt pos.line, rawInt pos.col, .ref c]))) P' (.tbl #[])) c (CodeT c q P')) Q) ∧
      ∀ Q, Tab1 nm H Q → Tab1 nm (upd (upd (upd H P (.tbl (ps ++ #[rawInt pos.line, rawInt pos.col, .ref c]))) P' (.tbl #[])) c (CodeT c q P')) Q := by
  have nPc : P ≠ c := ne_of_none hP nC
  have nPT : P ≠ P' := ne_of_none hP nT
  generalize hH1 : upd (upd (upd H P (.tbl (ps ++ #[rawInt pos.line, rawInt pos.col, .ref c]))) P' (.tbl #[])) c (CodeT c q P') = H1
  have atP : H1 P = some (.tbl (ps ++ #[rawInt pos.line, rawInt pos.col, .ref c])) := by rw [← hH1, upd_ne nPc, upd_ne nPT, upd_same]
  have atT : H1 P' = some (.tbl #[]) := by rw [← hH1, upd_ne (fun z => ne z.symm), upd_same]
  have atC : H1 c = some (CodeT c q P') := by rw [← hH1, upd_same]
  have kp : ∀ b u, H b = some u → b ≠ P → H1 b = some u := fun b u e n => by rw [← hH1, upd_ne (ne_of_none e nC), upd_ne (ne_of_none e nT), upd_ne n]; exact e
  have kc : ∀ b r P, H b = some (CodeT b r P) → H1 b = some (CodeT b r P) := fun b r _ e => kp b _ e (ne_of e hP (codeT_ne _))
  have eL : (ps ++ #[rawInt pos.line, rawInt pos.col, .ref c]).toList = ps.toList ++ [rawInt pos.line, rawInt pos.col, .ref c] := by simp
  have hT' : TriplesOk (ps ++ #[rawInt pos.line, rawInt pos.col, .ref c]).toList := by rw [eL]; exact PySem.TriplesOk_snoc _ _ _ _ ht
  have t2 : ∀ Q, Tab2 nm H Q → Tab2 nm H1 Q := fun Q ⟨qs, e1, e2, e3⟩ => by
    by_cases hQ : Q = P
    · rw [hQ, hP] at e1
      cases e1
      rw [hQ]
      refine ⟨_, atP, hT', fun p' cv hcv => ?_⟩
      rw [eL] at hcv
      rcases NdefX.among_app2 _ ht hcv with z | ⟨z, z1, z2⟩
      · obtain ⟨c0, Pc, y1, y2⟩ := e3 p' cv z
        exact ⟨c0, Pc, y1, kc _ _ _ y2⟩
      · exact ⟨c, P', z, by rw [← z1, ← z2, hq]; exact atC⟩
    · refine ⟨qs, kp _ _ e1 hQ, e2, fun p' cv hcv => ?_⟩
      obtain ⟨c0, Pc, y1, y2⟩ := e3 p' cv hcv
      exact ⟨c0, Pc, y1, kc _ _ _ y2⟩
  have tn : Tab2 nm H1 P' := (Tab1.nil atT).two
  refine ⟨t2, fun Q ⟨qs, e1, e2, e3⟩ => ?_⟩
  by_cases hQ : Q = P
  · rw [hQ, hP] at e1
    cases e1
    rw [hQ]
    refine ⟨_, atP, hT', fun p' cv hcv => ?_⟩
    rw [eL] at hcv
    rcases NdefX.among_app2 _ ht hcv with z | ⟨z, z1, z2⟩
    · obtain ⟨c0, Pc, y1, y2, y3⟩ := e3 p' cv z
      exact ⟨c0, Pc, y1, kc _ _ _ y2, t2 _ y3⟩
    · exact ⟨c, P', z, by rw [← z1, ← z2, hq]; exact atC, tn⟩
  · refine ⟨qs, kp _ _ e1 hQ, e2, fun p' cv hcv => ?_⟩
    obtain ⟨c0, Pc, y1, y2, y3⟩ := e3 p' cv hcv
    exact ⟨c0, Pc, y1, kc _ _ _ y2, t2 _ y3⟩
/-- the lambda is made: its code object is new, or found in the table -/
theorem lam_makeQ {nm : Nat → Nat → Str} {c P : Addr} {params : Arguments} {body : Expr} {scope : Scope} {pos : Pos} {E : Value → Shared → Prop} {Q : Value → Shared → Prop} (I : Inv X pins σ H s) (hcode : X.env.code = .ref c) (C : PySem.W.CodeHd s.heap c P) (bP : s.heap.BuiltinsAt X.mg P) (gP : mainGlobals ≠ P)
    (hT : Tab2 nm H P) (hn : nm pos.line pos.col = X.env.qual ++ "<lambda>") (hdef : defaultsOf params X.env = ([], [])) (hfree : ∀ y ∈ scope.names, y.2 = .free → ∃ c, X.env.cells.lookup y.1 = some c)
    (h : ∀ (f c' : Addr) (pm ctv : Value) (H1 : Hp) (s' : Shared), Inv X pins σ H1 s' → LamX.ExtN H H1 → (∀ b, H1 b = none → H b = none) → (∀ L : List Addr, TabsQ ⟨nm, L⟩ H → TabsQ ⟨nm, L⟩ H1) →
      s'.heap.get? f = some (PySem.W.kla_obj "<lambda>" (X.env.qual ++ "<lambda>") params body scope (cloFrom X.env.cells scope.names []) pm c' ctv) → H1 f = none → f ∉ frs X.stack → CoK H1 c' (X.env.qual ++ "<lambda>") → (∃ ps, H1 P = some (.tbl ps) ∧ codeAmong pos ps.toList = some (.ref c')) → Q (.ref f) s') :
    wpAny (model X.prog X.w) X.A (eval (.Lambda params body scope pos) X.env) Q E s := by
  obtain ⟨ps, hP, ht, ha⟩ := id hT
  refine PySem.W.kla_eval hdef ?_
  have hP' : s.heap.get? P = some { cls := .none, data := .fields ps } := I.hok P _ hP
  have nofr : ∀ f, s.heap.objs.size ≤ f → f ∉ frs X.stack := fun f hf z => by
    rcases List.mem_cons.mp (I.stkSub _ z) with e | e
    · have h1 := I.lt
      rw [← e] at h1
      exact Nat.lt_irrefl _ (Nat.lt_of_lt_of_le h1 hf)
    · exact I.nofs hf e
  cases hc : codeAmong pos ps.toList with
  | none =>
    refine lam_fresh (mg := X.mg) (c := c) (P := P) (ps := ps) (closure_ok hfree) I.ok.glob (I.mod.glob.keeps I.bk) hcode C hP' ht hc gP bP fun c' P' ctv h' tk hx hge hlt hrec htb hge' hC hp' => ?_
    obtain ⟨c2, oc, vs, t, e2, hoc, hd, hv⟩ := hrec
    cases e2
    have hsz : s.heap.objs.size ≤ h'.objs.size := Nat.le_trans hge (Nat.le_of_lt hlt)
    have nC : H c' = none := I.hok.fresh hge
    have nT : H P' = none := I.hok.fresh hge'
    have nCT : c' ≠ P' := by
      obtain ⟨_, _, _, _, _, _, _, _, _, _, _, _, _, _, _, _, _, _, z⟩ := hC
      exact z
    have ps' := fun (b : Addr) (o : Obj) (e : h'.get? b = some o) => Heap.get?_push_of_some (PySem.W.kla_obj "<lambda>" (X.env.qual ++ "<lambda>") params body scope (cloFrom X.env.cells scope.names []) ((X.mg "__name__").getD .none) c' ctv) e
    have I1 := inv_table2 (q := X.env.qual ++ "<lambda>") (t' := tk) (more := #[rawInt pos.line, rawInt pos.col, .ref c']) (h' := h'.push (PySem.W.kla_obj "<lambda>" (X.env.qual ++ "<lambda>") params body scope (cloFrom X.env.cells scope.names []) ((X.mg "__name__").getD .none) c' ctv)) I hP
      (fun b o hb e => ps' _ _ (hx b o hb e)) (ps' _ _ htb) hge hge' (hC.keeps ps') ⟨oc, vs, t, ps' _ _ hoc, hd, hv⟩ (ps' _ _ hp')
    obtain ⟨_, T1⟩ := tab_upd (pos := pos) (q := X.env.qual ++ "<lambda>") hP ht nC nT nCT hn hT
    refine h h'.objs.size c' ((X.mg "__name__").getD .none) ctv _ _ I1 (fun b o e n => ?_) (fun b e => NdefX.upd_none (NdefX.upd_none (NdefX.upd_none e))) (fun L z p hp => T1 p (z p hp)) (Heap.get?_push_size _ rfl) ?_ (nofr _ hsz) ⟨P', upd_same⟩ ⟨_, by rw [upd_ne (ne_of_none hP nC), upd_ne (ne_of_none hP nT), upd_same], ?_⟩
    · rw [upd_ne (ne_of_none e nC), upd_ne (ne_of_none e nT), upd_ne (fun z => n ps (Option.some.inj (e.symm.trans (by rw [z]; exact hP))))]
      exact e
    · have n1 : h'.objs.size ≠ c' := Nat.ne_of_gt hlt
      have n2 : h'.objs.size ≠ P := Nat.ne_of_gt (Nat.lt_of_lt_of_le (Heap.lt_size hP') hsz)
      have n3 : h'.objs.size ≠ P' := Nat.ne_of_gt (Heap.lt_size hp')
      rw [upd_ne n1, upd_ne n3, upd_ne n2]
      exact I.hok.fresh hsz
    · have eL : (ps ++ #[rawInt pos.line, rawInt pos.col, .ref c']).toList = ps.toList ++ [rawInt pos.line, rawInt pos.col, .ref c'] := by simp
      rw [eL, codeAmong_snoc _ ht hc]
  | some cv =>
    obtain ⟨c', Pc, e, hco⟩ := ha pos cv hc
    subst e
    rw [hn] at hco
    refine PySem.W.kla_makeFunctionHit (mg := X.mg) (c := c) (P := P) (ps := ps) (closure_ok hfree) I.ok.glob (I.mod.glob.keeps I.bk) hcode C hP' ht hc bP fun ctv h' tk hx hsz => ?_
    have I1 : Inv X pins σ H { s with heap := h'.push (PySem.W.kla_obj "<lambda>" (X.env.qual ++ "<lambda>") params body scope (cloFrom X.env.cells scope.names []) ((X.mg "__name__").getD .none) c' ctv), toks := tk } := I.kept fun b o e => Heap.get?_push_of_some _ (hx b o e)
    exact h h'.objs.size c' ((X.mg "__name__").getD .none) ctv H _ I1 (LamX.ExtN.refl H) (fun _ e => e) (fun _ z => z) (Heap.get?_push_size _ rfl) (I.hok.fresh hsz) (nofr _ hsz) ⟨Pc, hco⟩ ⟨ps, hP, hc⟩
end
/-- where a lambda is made in the context X: its maker's code object and table -/
def MkOk (T : TQ) (X : Cx) (pos : Pos) : Prop := T.nm pos.line pos.col = X.env.qual ++ "<lambda>" ∧
  ∀ (pins : List (Addr × Obj)) (σ : L2.St) (H : Hp) (s : Shared), Inv X pins σ H s → TabsQ T H → ∃ c P, X.env.code = .ref c ∧ PySem.W.CodeHd s.heap c P ∧ s.heap.BuiltinsAt X.mg P ∧ mainGlobals ≠ P ∧ Tab2 T.nm H P
/-- in a def whose table is of the first level -/
theorem MkOk.one {T : TQ} {X : Cx} {pos : Pos} {c P : Addr} (hn : T.nm pos.line pos.col = X.env.qual ++ "<lambda>") (hcode : X.env.code = .ref c) (B : LamX.TabB X.base X.mg c P) (hP : P ∈ T.ps) : MkOk T X pos :=
  ⟨hn, fun pins σ H s I hT => ⟨c, P, hcode, B.code.keeps I.bk, B.bm.keeps I.bk, B.gP, (hT P hP).two⟩⟩
/-- the code object c' stands in a table of the first level, at a place -/
def Placed (T : TQ) (H : Hp) (pos : Pos) (c' : Addr) : Prop := ∃ P ∈ T.ps, ∃ ps, H P = some (.tbl ps) ∧ codeAmong pos ps.toList = some (.ref c')
theorem Placed.un {T : TQ} {H H' : Hp} {pos : Pos} {c' : Addr} {fs ex : List Addr} {h h' : Heap} (p : Placed T H pos c') (u : Un fs ex H H' h h') : Placed T H' pos c' := by
  obtain ⟨P, hP, ps, e1, e2⟩ := p
  obtain ⟨more, e3⟩ := u.tbls P ps e1
  refine ⟨P, hP, _, e3, ?_⟩
  rw [Array.toList_append]
  exact among_more _ _ e2
/-- in a lambda whose code object stands in such a table -/
theorem MkOk.two {T : TQ} {X : Cx} {pos p0 : Pos} {c0 P0 c' : Addr} (hn : T.nm pos.line pos.col = X.env.qual ++ "<lambda>") (hcode : X.env.code = .ref c') (B : LamX.TabB X.base X.mg c0 P0) (hp : Placed T X.H_0 p0 c') : MkOk T X pos := by
  refine ⟨hn, fun pins σ H s I hT => ?_⟩
  obtain ⟨P, hP, ps, e1, e2⟩ := hp.un I.base
  obtain ⟨qs, e3, _, e4⟩ := hT P hP
  rw [e1] at e3
  cases e3
  obtain ⟨c, Pc, e5, e6, e7⟩ := e4 p0 _ e2
  cases e5
  obtain ⟨rs, e8, _⟩ := id e7
  have hPc : s.heap.get? Pc = some { cls := .none, data := .fields rs } := I.hok Pc _ e8
  obtain ⟨⟨C, _⟩, _, _⟩ := I.hok c' _ e6
  obtain ⟨bm, ob, b1, b2, b3, b4, b5, b6, b7, b8⟩ := B.bm.keeps I.bk
  refine ⟨c', Pc, hcode, C, ⟨bm, ob, b1, b2, b3, fun z => ?_, b5, b6, b7, b8⟩, fun z => ?_, e7⟩
  · rw [z, hPc] at b5
    cases b5
    cases b8
  · obtain ⟨o, es, ep, e, hd, _⟩ := I.mod.glob.keeps I.bk
    rw [z, hPc] at e
    cases e
    cases hd
end DL

set_option Elab.async false
set_option linter.all false
set_option maxRecDepth 100000
set_option maxHeartbeats 4000000
/-! The data layer: values as plain data, what an expression or a statement means on data. -/
namespace DL
open PySem PySem.Spec PyProof.Rows L2

/-! ### data -/
inductive D where
  | non | bl (b : Bool) | int (i : Int) | str (x : Str) | tup (ds : List D) | lst (ds : List D) | bag | obj (v : V) | scr (ns : List Int) | fn (x : Str) | card | crd (ds : List D)

/-- where the things lie that change: the bag, the card (and its dict); the card's class, its fixed fields -/
structure Mu where
  bag : Option Addr
  card : Option (Addr × Addr)
  cls : Addr
  cds : List D
  cvs : List V
def Mu.has (m : Mu) (b : Addr) : Prop := m.bag = some b ∨ ∃ c, m.card = some c ∧ (c.1 = b ∨ c.2 = b)
/-- what they hold -/
structure MS where
  cds : List D
  bag : List Int
  rounds : Str
  past : List Str
/-- a card's fields by name -/
def cFlds : List V → List (Str × V)
  | [k, s, p, r, q] => [("kept", k), ("start", s), ("prizes", p), ("rounds", r), ("past", q)]
  | _ => []
mutual
/-- the value v stands for the datum, in the heap H; ba: where the bag lies -/
def Den (K : PySem.W.Frag) (ba : Mu) (H : Hp) : D → V → Prop
  | .non, v => v = .non
  | .bl b, v => v = .bl b
  | .int i, v => v = .int i
  | .str x, v => v = .str x
  | .obj u, v => v = u
  | .fn x, v => v = .ref (He.ga K x)
  | .bag, v => ∃ a, ba.bag = some a ∧ v = .ref a
  | .card, v => ∃ c, ba.card = some c ∧ v = .ref c.1
  | .crd ds, v => ∃ a dx vs, v = .ref a ∧ H a = some (.ins (He.ga K "Card") dx (cFlds vs)) ∧ H dx = some (.own a) ∧ Dens K ba H ds vs
  | .scr ns, v => ∃ a, v = .ref a ∧ SqL K H a (ns.map V.int)
  | .tup ds, v => ∃ a vs, v = .ref a ∧ SqT K H a vs ∧ Dens K ba H ds vs
  | .lst ds, v => ∃ a vs, v = .ref a ∧ H a = some (.lst vs) ∧ Dens K ba H ds vs
def Dens (K : PySem.W.Frag) (ba : Mu) (H : Hp) : List D → List V → Prop
  | [], vs => vs = []
  | d :: ds, vs => ∃ v r, vs = v :: r ∧ Den K ba H d v ∧ Dens K ba H ds r
end

/-- all but the bag and the tables stay -/
structure Ex (ba : Mu) (H H' : Hp) : Prop where
  keep : ∀ b o, ¬ ba.has b → H b = some o → (∀ ps, o ≠ .tbl ps) → H' b = some o
  dom : ∀ a, H' a = none → H a = none
theorem Ex.refl {ba : Mu} (H : Hp) : Ex ba H H := ⟨fun _ _ _ h _ => h, fun _ h => h⟩
theorem Ex.trans {ba : Mu} {H H1 H2 : Hp} (a : Ex ba H H1) (b : Ex ba H1 H2) : Ex ba H H2 := ⟨fun c o n h t => b.keep c o n (a.keep c o n h t) t, fun c h => a.dom c (b.dom c h)⟩
def BagOff (ba : Mu) (B : Hp) : Prop := ∀ a, ba.has a → B a = none
structure BagIs (ba : Mu) (bs : MS) (H : Hp) : Prop where
  bag : ∀ a, ba.bag = some a → H a = some (.lst (bs.bag.map V.int))
  cds : bs.cds = ba.cds
  card : ∀ c, ba.card = some c → ∃ p, H c.1 = some (.ins ba.cls c.2 (cFlds (ba.cvs ++ [.str bs.rounds, .ref p]))) ∧ H c.2 = some (.own c.1) ∧ H p = some (.tup (bs.past.reverse.map V.str))
theorem BagIs.ext {ba : Mu} {bs : MS} {H H' : Hp} (i : BagIs ba bs H) (k : ∀ b o, H b = some o → (∀ ps, o ≠ .tbl ps) → H' b = some o) : BagIs ba bs H' :=
  ⟨fun a h => k a _ (i.bag a h) (fun _ z => by cases z), i.cds, fun c h => let ⟨p, h1, h2, h3⟩ := i.card c h; ⟨p, k _ _ h1 (fun _ z => by cases z), k _ _ h2 (fun _ z => by cases z), k _ _ h3 (fun _ z => by cases z)⟩⟩
theorem BagIs.updl {ba : Mu} {bs : MS} {H : Hp} {a : Addr} {vs : List V} {o : HO} (i : BagIs ba bs H) (h : H a = some (.lst vs)) (n : ¬ ba.has a) : BagIs ba bs (upd H a o) :=
  ⟨fun b hb => by rw [upd_ne (fun z => n (by rw [← z]; exact .inl hb))]; exact i.bag b hb, i.cds, fun c hc => by
    obtain ⟨p, h1, h2, h3⟩ := i.card c hc
    refine ⟨p, ?_, ?_, ?_⟩
    · rw [upd_ne (fun z => n (by rw [← z]; exact .inr ⟨c, hc, .inl rfl⟩))]; exact h1
    · rw [upd_ne (fun z => n (by rw [← z]; exact .inr ⟨c, hc, .inr rfl⟩))]; exact h2
    · rw [upd_ne (fun z => by rw [z, h] at h3; cases h3)]; exact h3⟩
theorem BagIs.at {ba : Mu} {bs : MS} {H : Hp} (i : BagIs ba bs H) {a : Addr} (h : ba.has a) : ∃ o, H a = some o ∧ ∀ ps, o ≠ .tbl ps := by
  rcases h with h | ⟨c, hc, h⟩
  · exact ⟨_, i.bag a h, fun _ z => by cases z⟩
  · obtain ⟨p, h1, h2, _⟩ := i.card c hc
    rcases h with h | h
    · rw [← h]; exact ⟨_, h1, fun _ z => by cases z⟩
    · rw [← h]; exact ⟨_, h2, fun _ z => by cases z⟩

section
variable {K : PySem.W.Frag} {ba : Mu} {B H H' : Hp}
theorem rd_ex {u : HO} {a : Addr} (e : Ex ba H H') (f : BagOff ba H) (nt : ∀ ps, u ≠ .tbl ps) (h : Rd H a u) : Rd H' a u := by
  have na : ∀ o, H a = some o → ¬ ba.has a := fun o h1 z => by
    rw [f a z] at h1
    cases h1
  rcases h with h | ⟨o, h⟩
  · exact .inl (e.keep a _ (na _ h) h nt)
  · exact .inr ⟨o, e.keep a _ (na _ h) h (fun _ z => by cases z)⟩
theorem sqT_ex {a : Addr} {vs : List V} (e : Ex ba H H') (f : BagOff ba H) (h : SqT K H a vs) : SqT K H' a vs := by
  rcases h with h | h
  · exact .inl (rd_ex e f (fun _ z => by cases z) h)
  · exact .inr h
theorem sqL_ex {a : Addr} {vs : List V} (e : Ex ba H H') (f : BagOff ba H) (h : SqL K H a vs) : SqL K H' a vs := by
  rcases h with h | h
  · exact .inl (rd_ex e f (fun _ z => by cases z) h)
  · exact .inr h
theorem lst_ex {a : Addr} {vs : List V} (e : Ex ba H H') (f : BagOff ba H) (h : H a = some (.lst vs)) : H' a = some (.lst vs) :=
  e.keep a _ (fun z => by rw [f a z] at h; cases h) h (fun _ z => by cases z)
theorem obj_ex {a : Addr} {o : HO} (e : Ex ba H H') (f : BagOff ba H) (nt : ∀ ps, o ≠ .tbl ps) (h : H a = some o) : H' a = some o :=
  e.keep a _ (fun z => by rw [f a z] at h; cases h) h nt
mutual
theorem Den.mono (e : Ex ba H H') (f : BagOff ba H) : ∀ (d : D) (v : V), Den K ba H d v → Den K ba H' d v
  | .non, _, h => by simp only [Den] at h ⊢; exact h
  | .bl _, _, h => by simp only [Den] at h ⊢; exact h
  | .int _, _, h => by simp only [Den] at h ⊢; exact h
  | .str _, _, h => by simp only [Den] at h ⊢; exact h
  | .obj _, _, h => by simp only [Den] at h ⊢; exact h
  | .bag, _, h => by simp only [Den] at h ⊢; exact h
  | .fn _, _, h => by simp only [Den] at h ⊢; exact h
  | .card, _, h => by simp only [Den] at h ⊢; exact h
  | .crd ds, _, h => by
    simp only [Den] at h ⊢
    obtain ⟨a, dx, vs, e1, h1, h2, h3⟩ := h
    exact ⟨a, dx, vs, e1, obj_ex e f (fun _ z => by cases z) h1, obj_ex e f (fun _ z => by cases z) h2, Dens.mono e f ds vs h3⟩
  | .scr ns, _, h => by
    simp only [Den] at h ⊢
    obtain ⟨a, e1, h1⟩ := h
    exact ⟨a, e1, sqL_ex e f h1⟩
  | .tup ds, _, h => by
    simp only [Den] at h ⊢
    obtain ⟨a, vs, e1, h1, h2⟩ := h
    exact ⟨a, vs, e1, sqT_ex e f h1, Dens.mono e f ds vs h2⟩
  | .lst ds, _, h => by
    simp only [Den] at h ⊢
    obtain ⟨a, vs, e1, h1, h2⟩ := h
    exact ⟨a, vs, e1, lst_ex e f h1, Dens.mono e f ds vs h2⟩
theorem Dens.mono (e : Ex ba H H') (f : BagOff ba H) : ∀ (ds : List D) (vs : List V), Dens K ba H ds vs → Dens K ba H' ds vs
  | [], _, h => by simp only [Dens] at h ⊢; exact h
  | d :: ds, _, h => by
    simp only [Dens] at h ⊢
    obtain ⟨v, r, e1, h1, h2⟩ := h
    exact ⟨v, r, e1, Den.mono e f d v h1, Dens.mono e f ds r h2⟩
end
/-- reading a denotation off -/
theorem den_int {i : Int} {v : V} (h : Den K ba H (.int i) v) : v = .int i := by simpa only [Den] using h
theorem den_str {x : Str} {v : V} (h : Den K ba H (.str x) v) : v = .str x := by simpa only [Den] using h
theorem den_bl {b : Bool} {v : V} (h : Den K ba H (.bl b) v) : v = .bl b := by simpa only [Den] using h
theorem den_non {v : V} (h : Den K ba H .non v) : v = .non := by simpa only [Den] using h
theorem den_obj {u v : V} (h : Den K ba H (.obj u) v) : v = u := by simpa only [Den] using h
theorem den_tup {ds : List D} {v : V} (h : Den K ba H (.tup ds) v) : ∃ a vs, v = .ref a ∧ SqT K H a vs ∧ Dens K ba H ds vs := by simpa only [Den] using h
theorem den_lst {ds : List D} {v : V} (h : Den K ba H (.lst ds) v) : ∃ a vs, v = .ref a ∧ H a = some (.lst vs) ∧ Dens K ba H ds vs := by simpa only [Den] using h
theorem den_bag {v : V} (h : Den K ba H .bag v) : ∃ a, ba.bag = some a ∧ v = .ref a := by simpa only [Den] using h
theorem den_scr {ns : List Int} {v : V} (h : Den K ba H (.scr ns) v) : ∃ a, v = .ref a ∧ SqL K H a (ns.map V.int) := by simpa only [Den] using h
theorem den_scr' {ns : List Int} {a : Addr} (h : SqL K H a (ns.map V.int)) : Den K ba H (.scr ns) (.ref a) := by simp only [Den]; exact ⟨a, rfl, h⟩
theorem den_fn {x : Str} {v : V} (h : Den K ba H (.fn x) v) : v = .ref (He.ga K x) := by simpa only [Den] using h
theorem den_fn' {x : Str} : Den K ba H (.fn x) (.ref (He.ga K x)) := by simp only [Den]
theorem den_int' {i : Int} : Den K ba H (.int i) (.int i) := by simp only [Den]
theorem den_str' {x : Str} : Den K ba H (.str x) (.str x) := by simp only [Den]
theorem den_bl' {b : Bool} : Den K ba H (.bl b) (.bl b) := by simp only [Den]
theorem den_non' : Den K ba H .non .non := by simp only [Den]
theorem den_obj' {u : V} : Den K ba H (.obj u) u := by simp only [Den]
theorem den_tup' {ds : List D} {a : Addr} {vs : List V} (h1 : SqT K H a vs) (h2 : Dens K ba H ds vs) : Den K ba H (.tup ds) (.ref a) := by simp only [Den]; exact ⟨a, vs, rfl, h1, h2⟩
theorem den_lst' {ds : List D} {a : Addr} {vs : List V} (h1 : H a = some (.lst vs)) (h2 : Dens K ba H ds vs) : Den K ba H (.lst ds) (.ref a) := by simp only [Den]; exact ⟨a, vs, rfl, h1, h2⟩
theorem dens_nil : Dens K ba H [] [] := by simp only [Dens]
theorem dens_cons {d : D} {ds : List D} {v : V} {vs : List V} (h : Den K ba H d v) (t : Dens K ba H ds vs) : Dens K ba H (d :: ds) (v :: vs) := by simp only [Dens]; exact ⟨v, vs, rfl, h, t⟩
theorem dens_nil_inv {vs : List V} (h : Dens K ba H [] vs) : vs = [] := by simpa only [Dens] using h
theorem dens_cons_inv {d : D} {ds : List D} {vs : List V} (h : Dens K ba H (d :: ds) vs) : ∃ v r, vs = v :: r ∧ Den K ba H d v ∧ Dens K ba H ds r := by simpa only [Dens] using h
theorem Dens.length : ∀ {ds : List D} {vs : List V}, Dens K ba H ds vs → vs.length = ds.length
  | [], _, h => by rw [dens_nil_inv h]; rfl
  | d :: ds, _, h => by
    obtain ⟨v, r, rfl, _, t⟩ := dens_cons_inv h
    rw [List.length_cons, List.length_cons, Dens.length t]
theorem Dens.get : ∀ {ds : List D} {vs : List V} {i : Nat} {d : D}, Dens K ba H ds vs → ds[i]? = some d → ∃ v, vs[i]? = some v ∧ Den K ba H d v
  | [], _, _, _, _, h => by simp at h
  | d :: ds, _, 0, _, h, e => by
    obtain ⟨v, r, rfl, h1, _⟩ := dens_cons_inv h
    have e' : d = _ := Option.some.inj e
    subst e'
    exact ⟨v, rfl, h1⟩
  | d :: ds, _, i + 1, _, h, e => by
    obtain ⟨v, r, rfl, _, t⟩ := dens_cons_inv h
    exact Dens.get (i := i) t e
theorem Dens.append : ∀ {ds es : List D} {vs ws : List V}, Dens K ba H ds vs → Dens K ba H es ws → Dens K ba H (ds ++ es) (vs ++ ws)
  | [], _, _, _, h, t => by rw [dens_nil_inv h]; exact t
  | d :: ds, _, _, _, h, t => by
    obtain ⟨v, r, rfl, h1, h2⟩ := dens_cons_inv h
    exact dens_cons h1 (Dens.append h2 t)
theorem Dens.take : ∀ (n : Nat) {ds : List D} {vs : List V}, Dens K ba H ds vs → Dens K ba H (ds.take n) (vs.take n)
  | 0, _, _, _ => by simpa using dens_nil
  | n + 1, [], _, h => by rw [dens_nil_inv h]; exact dens_nil
  | n + 1, d :: ds, _, h => by
    obtain ⟨v, r, rfl, h1, h2⟩ := dens_cons_inv h
    exact dens_cons h1 (Dens.take n h2)
theorem Dens.drop : ∀ (n : Nat) {ds : List D} {vs : List V}, Dens K ba H ds vs → Dens K ba H (ds.drop n) (vs.drop n)
  | 0, _, _, h => h
  | n + 1, [], _, h => by rw [dens_nil_inv h]; exact dens_nil
  | n + 1, d :: ds, _, h => by
    obtain ⟨v, r, rfl, h1, h2⟩ := dens_cons_inv h
    exact Dens.drop n h2
theorem Dens.ints {ns : List Int} : ∀ {vs : List V}, Dens K ba H (ns.map D.int) vs → vs = ns.map V.int := by
  induction ns with
  | nil => intro vs h; exact dens_nil_inv h
  | cons n r ih =>
    intro vs h
    obtain ⟨v, s, rfl, h1, h2⟩ := dens_cons_inv h
    rw [den_int h1, ih h2]; rfl
theorem dens_ints (ns : List Int) : Dens K ba H (ns.map D.int) (ns.map V.int) := by
  induction ns with
  | nil => exact dens_nil
  | cons n r ih => exact dens_cons den_int' ih
end

/-! ### the meanings -/
inductive Res (α : Type) where
  | ok (a : α) | ex (c : Str)
/-- a computation over the bag's draws: stuck, or a result and the draws left -/
def M (α : Type) : Type := MS → Option (Res α × MS)
def M.ret {α : Type} (a : α) : M α := fun b => some (.ok a, b)
def M.bnd {α β : Type} (m : M α) (f : α → M β) : M β := fun b => match m b with
  | some (.ok a, b') => f a b'
  | some (.ex c, b') => some (.ex c, b')
  | none => none
instance : Monad M where
  pure := M.ret
  bind := M.bnd
def stuck {α : Type} : M α := fun _ => none
def raise {α : Type} (c : Str) : M α := fun b => some (.ex c, b)
def opt {α : Type} : Option α → M α
  | some a => M.ret a
  | none => stuck

/-- what a slot holds: nothing known, a datum, a list of its own -/
inductive S where
  | no | d (x : D) | own (ds : List D)
abbrev Ga := List S

def SlotOk (K : PySem.W.Frag) (ba : Mu) (H0 B H : Hp) (o : Option V) : S → Prop
  | .no => True
  | .d x => ∃ v, o = some v ∧ Den K ba B x v
  | .own ds => ∃ a vs, o = some (.ref a) ∧ ¬ ba.has a ∧ H0 a = none ∧ B a = none ∧ H a = some (.lst vs) ∧ Dens K ba B ds vs

/-- what a law's proof fixes: the tables of lambdas, the classes of the errors -/
structure Gx where
  T : TQ
  ca : Str → Addr
  /-- what a body's entry is known to be -/
  good : Mu → Hp → Hp → Prop

structure Step (g : Gx) (ba : Mu) (B H B' H' : Hp) : Prop where
  bb : Ex ba B B'
  hh : Ex ba H H'
  bh : Ex ba B' H'
  nw : ∀ a o, H a = some o → (∀ ps, o ≠ .tbl ps) → B a = none → B' a = none
  tb : TabsQ g.T H → TabsQ g.T H'
section
variable {g : Gx} {ba : Mu} {B H B' H' B2 H2 : Hp}
theorem Step.refl (e : Ex ba B H) : Step g ba B H B H := ⟨Ex.refl _, Ex.refl _, e, fun _ _ _ _ h => h, fun h => h⟩
theorem Step.trans {bs : MS} (a : Step g ba B H B' H') (bi : BagIs ba bs H') (b : Step g ba B' H' B2 H2) : Step g ba B H B2 H2 :=
  ⟨a.bb.trans b.bb, a.hh.trans b.hh, b.bh, fun c o h t n => by
    by_cases hc : ba.has c
    · obtain ⟨o2, h2, t2⟩ := bi.at hc
      exact b.nw c _ h2 t2 (a.nw c o h t n)
    · exact b.nw c o (a.hh.keep c o hc h t) t (a.nw c o h t n), fun h => b.tb (a.tb h)⟩
theorem Step.off {bs : MS} (a : Step g ba B H B' H') (bi : BagIs ba bs H) (f : BagOff ba B) : BagOff ba B' := fun c hc =>
  let ⟨_, h2, t2⟩ := bi.at hc; a.nw c _ h2 t2 (f c hc)
end

/-- the card's fixed fields, its class -/
structure CstOk (K : PySem.W.Frag) (ba : Mu) (B : Hp) : Prop where
  d : Dens K ba B ba.cds ba.cvs
  c : ∀ c, ba.card = some c → ba.cls = He.ga K "Card"
theorem CstOk.mono {K : PySem.W.Frag} {ba : Mu} {B B' : Hp} (h : CstOk K ba B) (e : Ex ba B B') (f : BagOff ba B) : CstOk K ba B' := ⟨Dens.mono e f _ _ h.d, h.c⟩
/-- the state of a def's body on data: entered at (B0, H0) -/
structure Sta (g : Gx) (K : PySem.W.Frag) (ba : Mu) (B0 H0 : Hp) (σ : L2.St) (Γ : Ga) (bs : MS) (B H : Hp) : Prop where
  len : Γ.length = σ.length
  gd : g.good ba B0 H0
  tab : TabsQ g.T H
  ent : Step g ba B0 H0 B H
  off : BagOff ba B
  bag : BagIs ba bs H
  slot : ∀ (i : Nat) (s : S), Γ[i]? = some s → SlotOk K ba H0 B H (σ[i]?.join) s
  inj : ∀ (i j : Nat) (a : Addr) (ds es : List D), Γ[i]? = some (.own ds) → Γ[j]? = some (.own es) → σ[i]? = some (some (.ref a)) → σ[j]? = some (some (.ref a)) → i = j
  cst : CstOk K ba B
/-- what a call's entry is asked for beside -/
structure TabC (g : Gx) (K : PySem.W.Frag) (ba : Mu) (B H : Hp) : Prop where
  tab : TabsQ g.T H
  cst : CstOk K ba B
theorem Sta.tc {g : Gx} {K : PySem.W.Frag} {ba : Mu} {B0 H0 B H : Hp} {σ : L2.St} {Γ : Ga} {bs : MS} (s : Sta g K ba B0 H0 σ Γ bs B H) : TabC g K ba B H := ⟨s.tab, s.cst⟩
theorem Sta.step {g : Gx} {K : PySem.W.Frag} {ba : Mu} {B0 H0 B H B' H' : Hp} {σ : L2.St} {Γ : Ga} {bs bs' : MS} (s : Sta g K ba B0 H0 σ Γ bs B H) (t : Step g ba B H B' H') (bi : BagIs ba bs' H') : Sta g K ba B0 H0 σ Γ bs' B' H' := by
  refine ⟨s.len, s.gd, t.tb s.tab, s.ent.trans s.bag t, t.off s.bag s.off, bi, fun i x hx => ?_, s.inj, s.cst.mono t.bb s.off⟩
  have h := s.slot i x hx
  cases x with
  | no => exact True.intro
  | d x =>
    obtain ⟨v, e, h⟩ := h
    exact ⟨v, e, Den.mono t.bb s.off _ _ h⟩
  | own ds =>
    obtain ⟨a, vs, e, na, h0, hb, ha, hd⟩ := h
    exact ⟨a, vs, e, na, h0, t.nw a _ ha (fun _ z => by cases z) hb, t.hh.keep a _ na ha (fun _ z => by cases z), Dens.mono t.bb s.off _ _ hd⟩

/-! ### the judgements -/
/-- a reading of any kind: what it gives stands in the relation R to the datum -/
abbrev Rd' (α β : Type) := Mu → Hp → Hp → α → β → Prop
abbrev Tx (β : Type) := L2.St → Hp → (β → Hp → Prop) → Prop
def Ev {α β : Type} (g : Gx) (E : XK) (R : Rd' α β) (ba : Mu) (t : Tx β) (σ : L2.St) (B H : Hp) (r : Option (Res α × MS)) : Prop := ∀ Q : β → Hp → Prop, r ≠ none →
  (∀ x bs', r = some (.ok x, bs') → ∀ v B' H', Step g ba B H B' H' → BagIs ba bs' H' → R ba B' H' x v → Q v H') →
  (∀ c bs', r = some (.ex c, bs') → ∀ B' H', Step g ba B H B' H' → BagIs ba bs' H' → E (.ref (g.ca c)) none H') → t σ H Q
def DG {α β : Type} (g : Gx) (K : PySem.W.Frag) (E : XK) (R : Rd' α β) (t : Tx β) (m : Ga → M α) : Prop :=
  ∀ ba B0 H0 σ Γ bs B H, Sta g K ba B0 H0 σ Γ bs B H → Ev g E R ba t σ B H (m Γ bs)
/-- a value that may be an own list, whose items stand for data of B -/
def DenT (K : PySem.W.Frag) (ba : Mu) (B H : Hp) (x : D) (v : V) : Prop :=
  Den K ba B x v ∨ ∃ a vs ds, x = .lst ds ∧ v = .ref a ∧ ¬ ba.has a ∧ H a = some (.lst vs) ∧ Dens K ba B ds vs
def DenTs (K : PySem.W.Frag) (ba : Mu) (B H : Hp) : List D → List V → Prop
  | [], vs => vs = []
  | d :: ds, vs => ∃ v r, vs = v :: r ∧ DenT K ba B H d v ∧ DenTs K ba B H ds r
def RD (K : PySem.W.Frag) : Rd' D V := fun ba B _ x v => Den K ba B x v
def RB (K : PySem.W.Frag) : Rd' D V := fun ba B H x v => DenT K ba B H x v
def RA (K : PySem.W.Frag) : Rd' (List D) (List V) := fun ba B _ x v => Dens K ba B x v
def RAB (K : PySem.W.Frag) : Rd' (List D) (List V) := fun ba B H x v => DenTs K ba B H x v
def RE {α : Type} : Rd' α α := fun _ _ _ x v => v = x
/-- stable: behind further steps it stands still -/
def Mono {α β : Type} (g : Gx) (R : Rd' α β) : Prop := ∀ ba B H B' H' x v, Step g ba B H B' H' → BagOff ba B → R ba B H x v → R ba B' H' x v
section
variable {g : Gx} {K : PySem.W.Frag} {ba : Mu} {B H B' H' : Hp}
theorem DenT.mono {x : D} {v : V} (t : Step g ba B H B' H') (f : BagOff ba B) (h : DenT K ba B H x v) : DenT K ba B' H' x v := by
  rcases h with h | ⟨a, vs, ds, e1, e2, na, h1, h2⟩
  · exact .inl (Den.mono t.bb f _ _ h)
  · exact .inr ⟨a, vs, ds, e1, e2, na, t.hh.keep a _ na h1 (fun _ z => by cases z), Dens.mono t.bb f _ _ h2⟩
theorem DenTs.mono (t : Step g ba B H B' H') (f : BagOff ba B) : ∀ {xs : List D} {vs : List V}, DenTs K ba B H xs vs → DenTs K ba B' H' xs vs
  | [], _, h => h
  | _ :: _, _, ⟨v, r, e, h1, h2⟩ => ⟨v, r, e, DenT.mono t f h1, DenTs.mono t f h2⟩
theorem mono_RD : Mono g (RD K) := fun _ _ _ _ _ _ _ t f h => Den.mono t.bb f _ _ h
theorem mono_RB : Mono g (RB K) := fun _ _ _ _ _ _ _ t f h => DenT.mono t f h
theorem mono_RA : Mono g (RA K) := fun _ _ _ _ _ _ _ t f h => Dens.mono t.bb f _ _ h
theorem mono_RAB : Mono g (RAB K) := fun _ _ _ _ _ _ _ t f h => DenTs.mono t f h
theorem mono_RE {α : Type} : Mono g (RE (α := α)) := fun _ _ _ _ _ _ _ _ _ h => h
/-- a list, own or not -/
theorem DenT.lst {ds : List D} {v : V} (e : Ex ba B H) (f : BagOff ba B) (h : DenT K ba B H (.lst ds) v) : ∃ a vs, v = .ref a ∧ H a = some (.lst vs) ∧ Dens K ba B ds vs := by
  rcases h with h | ⟨a, vs, ds', e1, e2, na, h1, h2⟩
  · obtain ⟨a, vs, e1, h1, h2⟩ := den_lst h
    exact ⟨a, vs, e1, lst_ex e f h1, h2⟩
  · cases e1
    exact ⟨a, vs, e2, h1, h2⟩
theorem DenT.tup {ds : List D} {v : V} (e : Ex ba B H) (f : BagOff ba B) (h : DenT K ba B H (.tup ds) v) : ∃ a vs, v = .ref a ∧ SqT K H a vs ∧ Dens K ba B ds vs := by
  rcases h with h | ⟨a, vs, ds', e1, _⟩
  · obtain ⟨a, vs, e1, h1, h2⟩ := den_tup h
    exact ⟨a, vs, e1, sqT_ex e f h1, h2⟩
  · cases e1
theorem DenT.den {x : D} {v : V} (n : ∀ ds, x ≠ .lst ds) (h : DenT K ba B H x v) : Den K ba B x v := by
  rcases h with h | ⟨a, vs, ds, e1, _⟩
  · exact h
  · exact absurd e1 (n ds)
theorem DenT.int {i : Int} {v : V} (h : DenT K ba B H (.int i) v) : v = .int i := den_int (h.den (fun _ z => by cases z))
theorem DenT.str {i : Str} {v : V} (h : DenT K ba B H (.str i) v) : v = .str i := den_str (h.den (fun _ z => by cases z))
theorem DenT.bl {i : Bool} {v : V} (h : DenT K ba B H (.bl i) v) : v = .bl i := den_bl (h.den (fun _ z => by cases z))
theorem DenT.non {v : V} (h : DenT K ba B H .non v) : v = .non := den_non (h.den (fun _ z => by cases z))
theorem DenT.obj {u v : V} (h : DenT K ba B H (.obj u) v) : v = u := den_obj (h.den (fun _ z => by cases z))
end
/-! judged syntax -/
structure PD (g : Gx) (E : XK) (X : Cx) (e : Expr) (te : TE) (m : Ga → M D) : Prop where
  pe : PE X e te
  de : DG g X.K E (RD X.K) te m
structure PB (g : Gx) (E : XK) (X : Cx) (e : Expr) (te : TE) (m : Ga → M D) : Prop where
  pe : PE X e te
  de : DG g X.K E (RB X.K) te m
structure PDT (g : Gx) (E : XK) (X : Cx) (e : Expr) (t : TT) (m : Ga → M Bool) : Prop where
  pe : PT X e t
  de : DG g X.K E RE t m
structure PDW (g : Gx) (E : XK) (X : Cx) (e : Expr) (t : TT) (m : Ga → M Bool) : Prop where
  pe : PW X e t
  de : DG g X.K E RE t m
structure PDA (g : Gx) (E : XK) (X : Cx) (es : List Expr) (t : TA) (m : Ga → M (List D)) : Prop where
  pe : PA X es t
  de : DG g X.K E (RA X.K) t m
structure PBA (g : Gx) (E : XK) (X : Cx) (es : List Expr) (t : TA) (m : Ga → M (List D)) : Prop where
  pe : PA X es t
  de : DG g X.K E (RAB X.K) t m
theorem Ev.weak {α β : Type} {g : Gx} {E : XK} {R R' : Rd' α β} {ba : Mu} {t : Tx β} {σ : L2.St} {B H : Hp} {r : Option (Res α × MS)} (h : Ev g E R ba t σ B H r) (w : ∀ B H x v, R ba B H x v → R' ba B H x v) : Ev g E R' ba t σ B H r :=
  fun Q hn h1 h2 => h Q hn (fun x bs' hx v B' H' t b d => h1 x bs' hx v B' H' t b (w _ _ _ _ d)) h2
theorem PD.pb {g : Gx} {E : XK} {X : Cx} {e : Expr} {te : TE} {m : Ga → M D} (h : PD g E X e te m) : PB g E X e te m :=
  ⟨h.pe, fun ba B0 H0 σ Γ bs B H s => (h.de ba B0 H0 σ Γ bs B H s).weak fun _ _ _ _ d => .inl d⟩

/-! ### how outcomes chain -/
theorem bnd_ok {α β : Type} {m : M α} {f : α → M β} {bs : MS} {a : α} {b' : MS} (h : m bs = some (.ok a, b')) : M.bnd m f bs = f a b' := by unfold M.bnd; rw [h]
theorem bnd_ex {α β : Type} {m : M α} {f : α → M β} {bs : MS} {c : Str} {b' : MS} (h : m bs = some (.ex c, b')) : M.bnd m f bs = some (.ex c, b') := by unfold M.bnd; rw [h]
theorem bnd_none {α β : Type} {m : M α} {f : α → M β} {bs : MS} (h : m bs = none) : M.bnd m f bs = none := by unfold M.bnd; rw [h]
theorem opt_some {α : Type} {o : Option α} {bs : MS} (h : opt o bs ≠ none) : ∃ z, o = some z ∧ opt o bs = some (.ok z, bs) := by
  cases o with
  | none => exact absurd rfl h
  | some z => exact ⟨z, rfl, rfl⟩
/-- what is wanted of an exception, behind a step -/
def Xw (g : Gx) (E : XK) (ba : Mu) (B H : Hp) {α : Type} (r : Option (Res α × MS)) : Prop :=
  ∀ c bs', r = some (.ex c, bs') → ∀ B' H', Step g ba B H B' H' → BagIs ba bs' H' → E (.ref (g.ca c)) none H'
section
variable {g : Gx} {E : XK} {α β γ : Type} {R : Rd' α β} {ba : Mu} {t : Tx β} {σ : L2.St} {B H B1 H1 : Hp} {bs b1 : MS}
theorem Xw.step {r r' : Option (Res α × MS)} (h : Xw g E ba B H r) (e : r = r') (s : Step g ba B H B1 H1) (bi : BagIs ba b1 H1) : Xw g E ba B1 H1 r' :=
  fun c bs' q B' H' t b => h c bs' (e.trans q) B' H' (s.trans bi t) b
/-- an expression first, then what is made of it -/
theorem Ev.bnd {m : M α} {f : α → M γ} {P : β → Hp → Prop} (h : Ev g E R ba t σ B H (m bs)) (hn : M.bnd m f bs ≠ none) (hx : Xw g E ba B H (M.bnd m f bs))
    (k : ∀ x b1, m bs = some (.ok x, b1) → M.bnd m f bs = f x b1 → f x b1 ≠ none → ∀ v B1 H1, Step g ba B H B1 H1 → BagIs ba b1 H1 → R ba B1 H1 x v → Xw g E ba B1 H1 (f x b1) → P v H1) : t σ H P := by
  cases q : m bs with
  | none => exact absurd (bnd_none q) hn
  | some r =>
    obtain ⟨r, b1⟩ := r
    rw [q] at h
    refine h P (fun z => nomatch z) (fun x bs' e v B1 H1 t bi d => ?_) (fun c bs' e B1 H1 t bi => ?_)
    · cases e
      exact k x _ q (bnd_ok q) (by rw [← bnd_ok (f := f) q]; exact hn) v B1 H1 t bi d (hx.step (bnd_ok q) t bi)
    · cases e
      exact hx c _ (bnd_ex q) B1 H1 t bi
end
end DL

set_option Elab.async false
set_option linter.all false
set_option maxRecDepth 100000
set_option maxHeartbeats 4000000
/-! Rules of expressions. -/
namespace DL
open PySem PySem.Spec PyProof.Rows L2
theorem Sta.sub {g : Gx} {K : PySem.W.Frag} {ba : Mu} {B0 H0 B H : Hp} {σ : L2.St} {Γ : Ga} {bs : MS} (s : Sta g K ba B0 H0 σ Γ bs B H) : Ex ba B H := s.ent.bh
theorem sz5 {n : Nat} (h : n ≤ 100000) : n ≤ sizeLine := Nat.le_trans h (by decide)
/-! ### new objects -/
section
variable {g : Gx} {ba : Mu} {B H : Hp} {bs : MS} {p : Addr} {o : HO}
theorem tabs_new (h : H p = none) (t : TabsQ g.T H) : TabsQ g.T (upd H p o) := t.ext fun b u e => by
  rw [upd_ne (ne_of_none e h)]
  exact e
theorem upd_dom {H : Hp} {p : Addr} {o : HO} {a : Addr} (h : upd H p o a = none) : a ≠ p ∧ H a = none := by
  by_cases z : a = p
  · rw [z, upd_same] at h
    cases h
  · rw [upd_ne z] at h
    exact ⟨z, h⟩
theorem Step.new (e : Ex ba B H) (h : H p = none) : Step g ba B H (upd B p o) (upd H p o) := by
  refine ⟨⟨fun b u nb hb nt => ?_, fun a z => (upd_dom z).2⟩, ⟨fun b u nb hb nt => ?_, fun a z => (upd_dom z).2⟩, ⟨fun b u nb hb nt => ?_, fun a z => ?_⟩, fun a u ha nt hb => ?_, tabs_new h⟩
  · rw [upd_ne (ne_of_none (e.keep b u nb hb nt) h)]
    exact hb
  · rw [upd_ne (ne_of_none hb h)]
    exact hb
  · by_cases z : b = p
    · rw [z, upd_same] at hb ⊢
      exact hb
    · rw [upd_ne z] at hb ⊢
      exact e.keep b u nb hb nt
  · rw [upd_ne (upd_dom z).1]
    exact e.dom a (upd_dom z).2
  · rw [upd_ne (ne_of_none ha h)]
    exact hb
/-- laid in H alone: an own object -/
theorem Step.newH (e : Ex ba B H) (h : H p = none) : Step g ba B H B (upd H p o) := by
  refine ⟨Ex.refl _, ⟨fun b u nb hb nt => ?_, fun a z => (upd_dom z).2⟩, ⟨fun b u nb hb nt => ?_, fun a z => e.dom a (upd_dom z).2⟩, fun a u ha nt hb => hb, tabs_new h⟩
  · rw [upd_ne (ne_of_none hb h)]
    exact hb
  · rw [upd_ne (ne_of_none (e.keep b u nb hb nt) h)]
    exact e.keep b u nb hb nt
theorem BagIs.new (bi : BagIs ba bs H) (h : H p = none) : BagIs ba bs (upd H p o) := bi.ext fun b u hb _ => by
  rw [upd_ne (ne_of_none hb h)]
  exact hb
theorem BagIs.nb (bi : BagIs ba bs H) (h : H p = none) : ¬ ba.has p := fun z => by
  obtain ⟨o, h2, _⟩ := bi.at z
  rw [h2] at h
  cases h
end
/-! ### constants, names -/
section
variable {g : Gx} {E : XK} {X : Cx}
theorem pd_k {e : Expr} {v : V} {x : D} (h : PE X e (tC v)) (hd : ∀ ba B, Den X.K ba B x v) : PD g E X e (tC v) (fun _ => M.ret x) :=
  ⟨h, fun ba B0 H0 σ Γ bs B H s Q hn h1 h2 => h1 x bs rfl v B H (Step.refl s.sub) s.bag (hd ba B)⟩
theorem pd_int {i j pos} : PD g E X (.Constant (.int i) j pos) (tC (.int i)) (fun _ => M.ret (.int i)) := pd_k pe_int fun _ _ => den_int'
theorem pd_str {x j pos} : PD g E X (.Constant (.str x) j pos) (tC (.str x)) (fun _ => M.ret (.str x)) := pd_k pe_str fun _ _ => den_str'
theorem pd_bl {b j pos} : PD g E X (.Constant (.bool b) j pos) (tC (.bl b)) (fun _ => M.ret (.bl b)) := pd_k pe_bl fun _ _ => den_bl'
theorem pd_non {j pos} : PD g E X (.Constant .none j pos) (tC .non) (fun _ => M.ret .non) := pd_k pe_non fun _ _ => den_non'
def rdv (Γ : Ga) (i : Nat) : M D := match Γ[i]? with
  | some (.d x) => M.ret x
  | _ => stuck
def rdo (Γ : Ga) (i : Nat) : M D := match Γ[i]? with
  | some (.d x) => M.ret x
  | some (.own ds) => M.ret (.lst ds)
  | _ => stuck
theorem join_some {σ : L2.St} {i : Nat} {v : V} (h : σ[i]?.join = some v) : σ[i]? = some (some v) := by
  cases q : σ[i]? with
  | none => rw [q] at h; cases h
  | some o =>
    rw [q] at h
    cases o with
    | none => cases h
    | some u =>
      have e : u = v := Option.some.inj h
      rw [e]
theorem pd_v {i : Nat} {e : Expr} (h : PE X e (tVar i)) : PD g E X e (tVar i) (fun Γ => rdv Γ i) := by
  refine ⟨h, fun ba B0 H0 σ Γ bs B H s Q hn h1 h2 => ?_⟩
  unfold rdv at hn h1
  cases q : Γ[i]? with
  | none => rw [q] at hn; exact absurd rfl hn
  | some x =>
    rw [q] at hn h1
    cases x with
    | no => exact absurd rfl hn
    | own ds => exact absurd rfl hn
    | d x =>
      obtain ⟨v, e1, e2⟩ := s.slot i _ q
      exact ⟨v, join_some e1, h1 x bs rfl v B H (Step.refl s.sub) s.bag e2⟩
theorem pb_o {i : Nat} {e : Expr} (h : PE X e (tVar i)) : PB g E X e (tVar i) (fun Γ => rdo Γ i) := by
  refine ⟨h, fun ba B0 H0 σ Γ bs B H s Q hn h1 h2 => ?_⟩
  unfold rdo at hn h1
  cases q : Γ[i]? with
  | none => rw [q] at hn; exact absurd rfl hn
  | some x =>
    rw [q] at hn h1
    cases x with
    | no => exact absurd rfl hn
    | own ds =>
      obtain ⟨a, vs, e1, na, _, _, ha, hd⟩ := s.slot i _ q
      exact ⟨.ref a, join_some e1, h1 (.lst ds) bs rfl _ B H (Step.refl s.sub) s.bag (.inr ⟨a, vs, ds, rfl, rfl, na, ha, hd⟩)⟩
    | d x =>
      obtain ⟨v, e1, e2⟩ := s.slot i _ q
      exact ⟨v, join_some e1, h1 x bs rfl v B H (Step.refl s.sub) s.bag (.inl e2)⟩
end
/-! ### two operands -/
def OpD (g : Gx) (K : PySem.W.Frag) (r : R2) (f : D → D → Option D) : Prop := ∀ ba B H bs x y z vx vy, f x y = some z → Ex ba B H → BagOff ba B → BagIs ba bs H → DenT K ba B H x vx → DenT K ba B H y vy →
  ∀ Q : VK, (∀ v B' H', Step g ba B H B' H' → BagIs ba bs H' → Den K ba B' z v → Q v H') → r vx vy H Q
def bin (f : D → D → Option D) (m1 m2 : Ga → M D) : Ga → M D := fun Γ => M.bnd (m1 Γ) fun x => M.bnd (m2 Γ) fun y => opt (f x y)
section
variable {g : Gx} {E : XK} {X : Cx} {K : PySem.W.Frag}
theorem dg_op {r : R2} {f : D → D → Option D} {ta tb : TE} {ma mb : Ga → M D} (hf : OpD g K r f) (a : DG g K E (RB K) ta ma) (b : DG g K E (RB K) tb mb) : DG g K E (RD K) (tOp r ta tb) (bin f ma mb) := by
  intro ba B0 H0 σ Γ bs B H s Q hn h1 h2
  refine (a ba B0 H0 σ Γ bs B H s).bnd (f := fun x => M.bnd (mb Γ) fun y => opt (f x y)) hn h2 fun x b1 e1 e1' n1 v B1 H1 t1 i1 d1 x1 => ?_
  have s1 := s.step t1 i1
  refine (b ba B0 H0 σ Γ b1 B1 H1 s1).bnd (f := fun y => opt (f x y)) n1 x1 fun y b2 e2 e2' n2 u B2 H2 t2 i2 d2 x2 => ?_
  have s2 := s1.step t2 i2
  obtain ⟨z, hz, ho⟩ := opt_some n2
  refine hf ba B2 H2 b2 x y z v u hz s2.sub s2.off i2 (mono_RB _ _ _ _ _ _ _ t2 s1.off d1) d2 Q fun w B3 H3 t3 i3 d3 => ?_
  exact h1 z b2 (by show M.bnd (ma Γ) _ bs = _; rw [e1', e2', ho]) w B3 H3 ((t1.trans i1 t2).trans i2 t3) i3 d3
theorem pd_op {op : Operator} {r : R2} {f : D → D → Option D} {ea eb : Expr} {ta tb : TE} {ma mb : Ga → M D} {pos : Pos} (ho : OpR X (binaryOp op) r) (hf : OpD g X.K r f) (a : PB g E X ea ta ma) (b : PB g E X eb tb mb) :
    PD g E X (.BinOp ea op eb pos) (tOp r ta tb) (bin f ma mb) := ⟨pe_op ho a.pe b.pe, dg_op hf a.de b.de⟩
theorem pd_cmp {op : CmpOp} {r : R2} {f : D → D → Option D} {ea eb : Expr} {ta tb : TE} {ma mb : Ga → M D} {pos : Pos} (ho : OpR X (compareOp op) r) (hf : OpD g X.K r f) (a : PB g E X ea ta ma) (b : PB g E X eb tb mb) (hm : behindInMarks op eb = false := by first | exact nomark _ | rfl) :
    PD g E X (.Compare ea [op] [eb] pos) (tOp r ta tb) (bin f ma mb) := ⟨pe_cmpR ho a.pe b.pe hm, dg_op hf a.de b.de⟩
def asB : D → M Bool
  | .bl b => M.ret b
  | _ => stuck
theorem asB_inv {x : D} {bs : MS} (h : asB x bs ≠ none) : ∃ b, x = .bl b ∧ asB x bs = some (.ok b, bs) := by
  cases x with
  | bl b => exact ⟨b, rfl, rfl⟩
  | _ => exact absurd rfl h
/-- a value that is a bool, tested -/
theorem dg_test {te : TE} {m : Ga → M D} (h : DG g K E (RD K) te m) : DG g K E RE (tTest te) (fun Γ => M.bnd (m Γ) asB) := by
  intro ba B0 H0 σ Γ bs B H s Q hn h1 h2
  refine (h ba B0 H0 σ Γ bs B H s).bnd (f := asB) hn h2 fun x b1 e1 e1' n1 v B1 H1 t1 i1 d1 x1 => ?_
  obtain ⟨b, rfl, hb⟩ := asB_inv n1
  exact ⟨b, den_bl d1, h1 b b1 (e1'.trans hb) b B1 H1 t1 i1 rfl⟩
theorem pt_cmp {op : CmpOp} {r : R2} {f : D → D → Option D} {ea eb : Expr} {ta tb : TE} {ma mb : Ga → M D} {pos : Pos} (ho : OpR X (compareOp op) r) (hf : OpD g X.K r f) (a : PB g E X ea ta ma) (b : PB g E X eb tb mb) (hm : behindInMarks op eb = false := by first | exact nomark _ | rfl) :
    PDT g E X (.Compare ea [op] [eb] pos) (tTest (tOp r ta tb)) (fun Γ => M.bnd (bin f ma mb Γ) asB) := ⟨pt_cmpR ho a.pe b.pe hm, dg_test (dg_op hf a.de b.de)⟩
theorem pt_v {e : Expr} {te : TE} {m : Ga → M D} (h : PD g E X e te m) (he : ∀ whole, isTrue e X.env whole = (do let v ← whole; standAt e.pos; holding [v] (truthy v)) := by intro _; rfl) : PDT g E X e (tB te) (fun Γ => M.bnd (m Γ) asB) :=
  ⟨L2.pt_val h.pe he, dg_test h.de⟩
/-! ### and, or, not -/
def andM (a b : M Bool) : M Bool := M.bnd a fun c => if c = true then b else M.ret false
def orM (a b : M Bool) : M Bool := M.bnd a fun c => if c = true then M.ret true else b
def notM (a : M Bool) : M Bool := M.bnd a fun c => M.ret (!c)
variable {ea eb : Expr} {rest : List Expr} {t u : TT} {ma mb : Ga → M Bool} {pos : Pos}
theorem PDW.pt (h : PDW g E X ea t ma) : PDT g E X ea t ma := ⟨h.pe.pt, h.de⟩
theorem pw_a1 (a : PDT g E X ea t ma) : PDW g E X (.BoolOp .And [ea] pos) t ma := ⟨pw_and1 a.pe, a.de⟩
theorem pw_o1 (a : PDT g E X ea t ma) : PDW g E X (.BoolOp .Or [ea] pos) t ma := ⟨pw_or1 a.pe, a.de⟩
theorem pw_a (a : PDT g E X ea t ma) (b : PDW g E X (.BoolOp .And (eb :: rest) pos) u mb) : PDW g E X (.BoolOp .And (ea :: eb :: rest) pos) (tAnd t u) (fun Γ => andM (ma Γ) (mb Γ)) := by
  refine ⟨pw_and a.pe b.pe, fun ba B0 H0 σ Γ bs B H s Q hn h1 h2 => ?_⟩
  refine (a.de ba B0 H0 σ Γ bs B H s).bnd (f := fun c => if c = true then mb Γ else M.ret false) hn h2 fun x b1 e1 e1' n1 v B1 H1 t1 i1 d1 x1 => ?_
  have d1 : v = x := d1
  subst d1
  cases v with
  | true =>
    exact b.de ba B0 H0 σ Γ b1 B1 H1 (s.step t1 i1) Q n1 (fun y b2 e2 w B2 H2 t2 i2 d2 => h1 y b2 (e1'.trans e2) w B2 H2 (t1.trans i1 t2) i2 d2) x1
  | false => exact h1 false b1 e1' false B1 H1 t1 i1 rfl
theorem pw_o (a : PDT g E X ea t ma) (b : PDW g E X (.BoolOp .Or (eb :: rest) pos) u mb) : PDW g E X (.BoolOp .Or (ea :: eb :: rest) pos) (tOr t u) (fun Γ => orM (ma Γ) (mb Γ)) := by
  refine ⟨pw_or a.pe b.pe, fun ba B0 H0 σ Γ bs B H s Q hn h1 h2 => ?_⟩
  refine (a.de ba B0 H0 σ Γ bs B H s).bnd (f := fun c => if c = true then M.ret true else mb Γ) hn h2 fun x b1 e1 e1' n1 v B1 H1 t1 i1 d1 x1 => ?_
  have d1 : v = x := d1
  subst d1
  cases v with
  | false =>
    exact b.de ba B0 H0 σ Γ b1 B1 H1 (s.step t1 i1) Q n1 (fun y b2 e2 w B2 H2 t2 i2 d2 => h1 y b2 (e1'.trans e2) w B2 H2 (t1.trans i1 t2) i2 d2) x1
  | true => exact h1 true b1 e1' true B1 H1 t1 i1 rfl
theorem pt_n (a : PDT g E X ea t ma) : PDT g E X (.UnaryOp .Not ea pos) (tNot t) (fun Γ => notM (ma Γ)) := by
  refine ⟨pt_not a.pe, fun ba B0 H0 σ Γ bs B H s Q hn h1 h2 => ?_⟩
  refine (a.de ba B0 H0 σ Γ bs B H s).bnd (f := fun c => M.ret (!c)) hn h2 fun x b1 e1 e1' n1 v B1 H1 t1 i1 d1 x1 => ?_
  have d1 : v = x := d1
  subst d1
  exact h1 (!v) b1 e1' (!v) B1 H1 t1 i1 rfl
/-! as values -/
def andK (b : M D) : D → M D
  | .bl true => b
  | .bl false => M.ret (.bl false)
  | _ => stuck
def orK (b : M D) : D → M D
  | .bl false => b
  | .bl true => M.ret (.bl true)
  | _ => stuck
def notK : D → M D
  | .bl c => M.ret (.bl (!c))
  | _ => stuck
def andV (a b : M D) : M D := M.bnd a (andK b)
def orV (a b : M D) : M D := M.bnd a (orK b)
def notV (a : M D) : M D := M.bnd a notK
variable {ta tb : TE} {na nb : Ga → M D}
theorem pd_one {op : BoolOp} (a : PD g E X ea ta na) : PD g E X (.BoolOp op [ea] pos) ta na := ⟨pe_one a.pe, a.de⟩
theorem pd_and (a : PD g E X ea ta na) (b : PD g E X (.BoolOp .And (eb :: rest) pos) tb nb) : PD g E X (.BoolOp .And (ea :: eb :: rest) pos) (tAndV ta tb) (fun Γ => andV (na Γ) (nb Γ)) := by
  refine ⟨pe_and a.pe b.pe, fun ba B0 H0 σ Γ bs B H s Q hn h1 h2 => ?_⟩
  refine (a.de ba B0 H0 σ Γ bs B H s).bnd (f := andK (nb Γ)) hn h2 fun x b1 e1 e1' n1 v B1 H1 t1 i1 d1 x1 => ?_
  cases x with
  | bl c =>
    refine ⟨c, den_bl d1, ?_⟩
    cases c with
    | true =>
      rw [if_pos rfl]
      exact b.de ba B0 H0 σ Γ b1 B1 H1 (s.step t1 i1) Q n1 (fun y b2 e2 w B2 H2 t2 i2 d2 => h1 y b2 (e1'.trans e2) w B2 H2 (t1.trans i1 t2) i2 d2) x1
    | false =>
      rw [if_neg Bool.false_ne_true]
      exact h1 (.bl false) b1 e1' _ B1 H1 t1 i1 den_bl'
  | _ => exact absurd rfl n1
theorem pd_or (a : PD g E X ea ta na) (b : PD g E X (.BoolOp .Or (eb :: rest) pos) tb nb) : PD g E X (.BoolOp .Or (ea :: eb :: rest) pos) (tOrV ta tb) (fun Γ => orV (na Γ) (nb Γ)) := by
  refine ⟨pe_or a.pe b.pe, fun ba B0 H0 σ Γ bs B H s Q hn h1 h2 => ?_⟩
  refine (a.de ba B0 H0 σ Γ bs B H s).bnd (f := orK (nb Γ)) hn h2 fun x b1 e1 e1' n1 v B1 H1 t1 i1 d1 x1 => ?_
  cases x with
  | bl c =>
    refine ⟨c, den_bl d1, ?_⟩
    cases c with
    | false =>
      rw [if_neg Bool.false_ne_true]
      exact b.de ba B0 H0 σ Γ b1 B1 H1 (s.step t1 i1) Q n1 (fun y b2 e2 w B2 H2 t2 i2 d2 => h1 y b2 (e1'.trans e2) w B2 H2 (t1.trans i1 t2) i2 d2) x1
    | true =>
      rw [if_pos rfl]
      exact h1 (.bl true) b1 e1' _ B1 H1 t1 i1 den_bl'
  | _ => exact absurd rfl n1
theorem pd_not (a : PD g E X ea ta na) : PD g E X (.UnaryOp .Not ea pos) (tNotV ta) (fun Γ => notV (na Γ)) := by
  refine ⟨pe_not a.pe, fun ba B0 H0 σ Γ bs B H s Q hn h1 h2 => ?_⟩
  refine (a.de ba B0 H0 σ Γ bs B H s).bnd (f := notK) hn h2 fun x b1 e1 e1' n1 v B1 H1 t1 i1 d1 x1 => ?_
  cases x with
  | bl c => exact ⟨c, den_bl d1, h1 (.bl (!c)) b1 e1' _ B1 H1 t1 i1 den_bl'⟩
  | _ => exact absurd rfl n1
def ifM {α : Type} (c : M Bool) (a b : M α) : M α := M.bnd c fun k => if k = true then a else b
theorem pd_if {ec : Expr} {mc : Ga → M Bool} (c : PDT g E X ec t mc) (a : PD g E X ea ta na) (b : PD g E X eb tb nb) : PD g E X (.IfExp ec ea eb pos) (tIf t ta tb) (fun Γ => ifM (mc Γ) (na Γ) (nb Γ)) := by
  refine ⟨pe_ifExp c.pe a.pe b.pe, fun ba B0 H0 σ Γ bs B H s Q hn h1 h2 => ?_⟩
  refine (c.de ba B0 H0 σ Γ bs B H s).bnd (f := fun k => if k = true then na Γ else nb Γ) hn h2 fun x b1 e1 e1' n1 v B1 H1 t1 i1 d1 x1 => ?_
  have d1 : v = x := d1
  subst d1
  cases v with
  | true => exact a.de ba B0 H0 σ Γ b1 B1 H1 (s.step t1 i1) Q n1 (fun y b2 e2 w B2 H2 t2 i2 d2 => h1 y b2 (e1'.trans e2) w B2 H2 (t1.trans i1 t2) i2 d2) x1
  | false => exact b.de ba B0 H0 σ Γ b1 B1 H1 (s.step t1 i1) Q n1 (fun y b2 e2 w B2 H2 t2 i2 d2 => h1 y b2 (e1'.trans e2) w B2 H2 (t1.trans i1 t2) i2 d2) x1
end
end DL

set_option Elab.async false
set_option linter.all false
set_option maxRecDepth 100000
set_option maxHeartbeats 4000000
/-! The operators on data. -/
namespace DL
open PySem PySem.Spec PyProof.Rows L2
/-! ### arithmetic -/
def D.add : D → D → Option D
  | .int i, .int j => some (.int (i + j))
  | .str x, .str y => if x.length + y.length ≤ 100000 then some (.str (x ++ y)) else none
  | .tup a, .tup b => if a.length + b.length ≤ 100000 then some (.tup (a ++ b)) else none
  | .lst a, .lst b => if a.length + b.length ≤ 100000 then some (.lst (a ++ b)) else none
  | _, _ => none
def rAddD (K : PySem.W.Frag) : R2 := fun x y H Q => (rI0 (fun i j => .int (i + j))) x y H Q ∨ (∃ i j, x = .str i ∧ y = .str j ∧ i.length + j.length ≤ sizeLine ∧ Q (.str (i ++ j)) H) ∨ rCatA K x y H Q ∨ rCat x y H Q
theorem op_addD {X : Cx} : OpR X (binaryOp .Add) (rAddD X.K) := op_add.or (op_add_str.or (op_catA.or op_cat))
theorem of_ite {c : Prop} [Decidable c] {α : Type} {x z : α} (h : (if c then some x else none) = some z) : c ∧ x = z := by
  by_cases hc : c
  · rw [if_pos hc] at h
    exact ⟨hc, Option.some.inj h⟩
  · rw [if_neg hc] at h
    cases h
section
variable {g : Gx} {K : PySem.W.Frag}
theorem od_add : OpD g K (rAddD K) D.add := by
  intro ba B H bs x y z vx vy hz e f bi dx dy Q q
  cases x <;> cases y <;> first | (exact nomatch (show none = some z from hz)) | skip
  case int.int i j =>
    have hz : some (D.int (i + j)) = some z := hz
    cases hz
    rw [dx.int, dy.int]
    exact .inl ⟨i, j, rfl, rfl, q _ B H (Step.refl e) bi den_int'⟩
  case str.str i j =>
    obtain ⟨h1, rfl⟩ := of_ite (show (if i.length + j.length ≤ 100000 then some (D.str (i ++ j)) else none) = some z from hz)
    rw [dx.str, dy.str]
    exact .inr (.inl ⟨i, j, rfl, rfl, sz5 h1, q _ B H (Step.refl e) bi den_str'⟩)
  case tup.tup i j =>
    obtain ⟨h1, rfl⟩ := of_ite (show (if i.length + j.length ≤ 100000 then some (D.tup (i ++ j)) else none) = some z from hz)
    obtain ⟨a, vs, rfl, ha, da⟩ := dx.tup e f
    obtain ⟨b, ws, rfl, hb, db⟩ := dy.tup e f
    have ha' : SqT K H a vs := ha
    obtain ⟨a0, vs0, ea, ha0, da0⟩ := den_tup (dx.den (fun _ z => by cases z))
    obtain ⟨b0, ws0, eb, hb0, db0⟩ := den_tup (dy.den (fun _ z => by cases z))
    cases ea
    cases eb
    refine .inr (.inr (.inl ⟨a, b, vs0, ws0, rfl, rfl, sqT_ex e f ha0, sqT_ex e f hb0, by rw [da0.length, db0.length]; exact sz5 h1, fun z => ?_, fun z w => ?_, fun z w p hp => ?_⟩))
    · have li : i = [] := by
        cases i with
        | nil => rfl
        | cons d ds => have := da0.length; rw [z] at this; simp at this
      rw [li] at q
      exact q _ B H (Step.refl e) bi (den_tup' hb0 db0)
    · have lj : j = [] := by
        cases j with
        | nil => rfl
        | cons d ds => have := db0.length; rw [w] at this; simp at this
      rw [lj, List.append_nil] at q
      exact q _ B H (Step.refl e) bi (den_tup' ha0 da0)
    · have t : Step g ba B H (upd B p (.tup (vs0 ++ ws0))) (upd H p (.tup (vs0 ++ ws0))) := Step.new e hp
      exact q _ _ _ t (bi.new hp) (den_tup' (SqT.of upd_same) (Dens.append (Dens.mono t.bb f _ _ da0) (Dens.mono t.bb f _ _ db0)))
  case lst.lst i j =>
    obtain ⟨h1, rfl⟩ := of_ite (show (if i.length + j.length ≤ 100000 then some (D.lst (i ++ j)) else none) = some z from hz)
    obtain ⟨a, vs, rfl, ha, da⟩ := dx.lst e f
    obtain ⟨b, ws, rfl, hb, db⟩ := dy.lst e f
    refine .inr (.inr (.inr ⟨a, b, vs, ws, rfl, rfl, ha, hb, by rw [da.length, db.length]; exact sz5 h1, fun p hp => ?_⟩))
    have t : Step g ba B H (upd B p (.lst (vs ++ ws))) (upd H p (.lst (vs ++ ws))) := Step.new e hp
    exact q _ _ _ t (bi.new hp) (den_lst' upd_same (Dens.append (Dens.mono t.bb f _ _ da) (Dens.mono t.bb f _ _ db)))
/-- two ints, told by a condition and a value -/
def D.i2 (C : Int → Int → Prop) [∀ i j, Decidable (C i j)] (h : Int → Int → D) : D → D → Option D
  | .int i, .int j => if C i j then some (h i j) else none
  | _, _ => none
theorem od_i2 {C C' : Int → Int → Prop} [∀ i j, Decidable (C i j)] {h : Int → Int → D} {k : Int → Int → V} (hc : ∀ i j, C i j → C' i j) (hk : ∀ i j ba B, Den K ba B (h i j) (k i j)) : OpD g K (rI C' k) (D.i2 C h) := by
  intro ba B H bs x y z vx vy hz e f bi dx dy Q q
  cases x <;> cases y <;> first | (exact nomatch (show none = some z from hz)) | skip
  case int.int i j =>
    obtain ⟨h1, rfl⟩ := of_ite (show (if C i j then some (h i j) else none) = some z from hz)
    rw [dx.int, dy.int]
    exact ⟨i, j, rfl, rfl, hc i j h1, q _ B H (Step.refl e) bi (hk i j ba B)⟩
def D.i2' (h : Int → Int → D) : D → D → Option D
  | .int i, .int j => some (h i j)
  | _, _ => none
theorem od_i2' {h : Int → Int → D} {k : Int → Int → V} (hk : ∀ i j ba B, Den K ba B (h i j) (k i j)) : OpD g K (rI0 k) (D.i2' h) := by
  intro ba B H bs x y z vx vy hz e f bi dx dy Q q
  cases x <;> cases y <;> first | (exact nomatch (show none = some z from hz)) | skip
  case int.int i j =>
    have hz : some (h i j) = some z := hz
    cases hz
    rw [dx.int, dy.int]
    exact ⟨i, j, rfl, rfl, q _ B H (Step.refl e) bi (hk i j ba B)⟩
def D.sub : D → D → Option D := D.i2' fun i j => .int (i - j)
def D.mod : D → D → Option D := D.i2 (fun _ j => 0 < j) fun i j => .int (i % j)
def D.fdiv : D → D → Option D := D.i2 (fun _ j => 0 < j ∧ j < 1073741824) fun i j => .int (i / j)
def D.pow : D → D → Option D := D.i2 (fun i j => 0 ≤ j ∧ j ≤ 1000000 ∧ i.natAbs < 2 ^ 64) fun i j => .int (i ^ j.toNat)
def D.lt : D → D → Option D := D.i2' fun i j => .bl (decide (i < j))
def D.le : D → D → Option D := D.i2' fun i j => .bl (decide (i ≤ j))
def D.gt : D → D → Option D := D.i2' fun i j => .bl (decide (j < i))
def D.ge : D → D → Option D := D.i2' fun i j => .bl (decide (j ≤ i))
theorem od_sub : OpD g K (rI0 fun i j => .int (i - j)) D.sub := od_i2' fun _ _ _ _ => den_int'
theorem od_mod : OpD g K (rI (fun _ j => 0 < j) fun i j => .int (i % j)) D.mod := od_i2 (fun _ _ h => h) fun _ _ _ _ => den_int'
theorem od_fdiv : OpD g K (rI CDiv fun i j => .int (i / j)) D.fdiv := od_i2 (fun _ _ h => h) fun _ _ _ _ => den_int'
theorem od_pow : OpD g K (rI CPow fun i j => .int (i ^ j.toNat)) D.pow := od_i2 (fun _ _ h => h) fun _ _ _ _ => den_int'
theorem od_lt : OpD g K (rI0 fun i j => .bl (decide (i < j))) D.lt := od_i2' fun _ _ _ _ => den_bl'
theorem od_le : OpD g K (rI0 fun i j => .bl (decide (i ≤ j))) D.le := od_i2' fun _ _ _ _ => den_bl'
theorem od_gt : OpD g K (rI0 fun i j => .bl (decide (j < i))) D.gt := od_i2' fun _ _ _ _ => den_bl'
theorem od_ge : OpD g K (rI0 fun i j => .bl (decide (j ≤ i))) D.ge := od_i2' fun _ _ _ _ => den_bl'
/-- *: ints -/
def D.mul : D → D → Option D := D.i2 (fun i j => (-(2 ^ 64) < i ∧ i < 2 ^ 64) ∨ (-(2 ^ 64) < j ∧ j < 2 ^ 64)) fun i j => .int (i * j)
theorem od_mul : OpD g K (rI CMul fun i j => .int (i * j)) D.mul := od_i2 (fun _ _ h => h) fun _ _ _ _ => den_int'
end
/-! ### one operand -/
def UnD (g : Gx) (K : PySem.W.Frag) (r : V → Hp → VK → Prop) (f : D → Option D) : Prop := ∀ ba B H bs x z vx, f x = some z → Ex ba B H → BagOff ba B → BagIs ba bs H → DenT K ba B H x vx →
  ∀ Q : VK, (∀ v B' H', Step g ba B H B' H' → BagIs ba bs H' → Den K ba B' z v → Q v H') → r vx H Q
def un1 (f : D → Option D) (m : Ga → M D) : Ga → M D := fun Γ => M.bnd (m Γ) fun x => opt (f x)
section
variable {g : Gx} {E : XK} {X : Cx} {K : PySem.W.Frag}
theorem dg_un {r : V → Hp → VK → Prop} {f : D → Option D} {ta : TE} {ma : Ga → M D} (hf : UnD g K r f) (a : DG g K E (RB K) ta ma) : DG g K E (RD K) (tUn r ta) (un1 f ma) := by
  intro ba B0 H0 σ Γ bs B H s Q hn h1 h2
  refine (a ba B0 H0 σ Γ bs B H s).bnd (f := fun x => opt (f x)) hn h2 fun x b1 e1 e1' n1 v B1 H1 t1 i1 d1 x1 => ?_
  have s1 := s.step t1 i1
  obtain ⟨z, hz, ho⟩ := opt_some n1
  exact hf ba B1 H1 b1 x z v hz s1.sub s1.off i1 d1 Q fun w B3 H3 t3 i3 d3 => h1 z b1 (e1'.trans ho) w B3 H3 (t1.trans i1 t3) i3 d3
def D.neg : D → Option D
  | .int i => some (.int (-i))
  | _ => none
theorem ud_neg : UnD g K (rU fun i => .int (-i)) D.neg := by
  intro ba B H bs x z vx hz e f bi dx Q q
  cases x with
  | int i =>
    have hz : some (D.int (-i)) = some z := hz
    cases hz
    rw [dx.int]
    exact ⟨i, rfl, q _ B H (Step.refl e) bi den_int'⟩
  | _ => exact nomatch (show none = some z from hz)
theorem pd_neg {ea : Expr} {ta : TE} {ma : Ga → M D} {pos : Pos} (a : PB g E X ea ta ma) : PD g E X (.UnaryOp .USub ea pos) (tUn (rU fun i => .int (-i)) ta) (un1 D.neg ma) := ⟨pe_un un_neg a.pe, dg_un ud_neg a.de⟩
end
/-! ### == of data -/
mutual
def py : D → PyData
  | .non => .none
  | .bl b => .bool b
  | .int i => .int i
  | .str x => .str x
  | .tup ds => .tuple (pys ds)
  | .lst ds => .list (pys ds)
  | .bag => .none
  | .obj _ => .none
  | .scr _ => .none
  | .fn _ => .none
  | .card => .none
  | .crd _ => .none
def pys : List D → List PyData
  | [] => []
  | d :: ds => py d :: pys ds
end
mutual
/-- of data at most n deep, its texts of proper signs -/
def okE : Nat → D → Bool
  | _, .non => true
  | _, .bl _ => true
  | _, .int _ => true
  | _, .str x => PyData.strOk x
  | n, .tup ds => match n with
    | 0 => false
    | n + 1 => okEs n ds
  | n, .lst ds => match n with
    | 0 => false
    | n + 1 => okEs n ds
  | _, .bag => false
  | _, .obj _ => false
  | _, .scr _ => false
  | _, .fn _ => false
  | _, .card => false
  | _, .crd _ => false
def okEs : Nat → List D → Bool
  | _, [] => true
  | n, d :: ds => okE n d && okEs n ds
end
section
variable {K : PySem.W.Frag} {ba : Mu} {H : Hp}
mutual
theorem okE_py : ∀ (n : Nat) (d : D) (v : V), okE n d = true → Den K ba H d v → Dp K H v (py d) ∧ (py d).canLay0 = true ∧ (py d).depth ≤ n
  | n, .non, v, _, h => by rw [den_non h]; exact ⟨.non, rfl, Nat.zero_le _⟩
  | n, .bl b, v, _, h => by rw [den_bl h]; exact ⟨.bl b, rfl, Nat.zero_le _⟩
  | n, .int i, v, _, h => by rw [den_int h]; exact ⟨.int i, rfl, Nat.zero_le _⟩
  | n, .str x, v, o, h => by
    rw [den_str h]
    exact ⟨.str x, by simpa only [py, PyData.canLay0, okE] using o, Nat.zero_le _⟩
  | 0, .tup ds, v, o, h => by simp [okE] at o
  | n + 1, .tup ds, v, o, h => by
    obtain ⟨a, vs, rfl, h1, h2⟩ := den_tup h
    obtain ⟨q1, q2, q3⟩ := okEs_py n ds vs (by simpa only [okE] using o) h2
    simp only [py, PyData.canLay0, PyData.depth]
    exact ⟨.tup h1 q1, q2, by omega⟩
  | 0, .lst ds, v, o, h => by simp [okE] at o
  | n + 1, .lst ds, v, o, h => by
    obtain ⟨a, vs, rfl, h1, h2⟩ := den_lst h
    obtain ⟨q1, q2, q3⟩ := okEs_py n ds vs (by simpa only [okE] using o) h2
    simp only [py, PyData.canLay0, PyData.depth]
    exact ⟨.lst (SqL.of h1) q1, q2, by omega⟩
  | n, .bag, v, o, _ => by simp [okE] at o
  | n, .obj _, v, o, _ => by simp [okE] at o
  | n, .scr _, v, o, _ => by simp [okE] at o
  | n, .fn _, v, o, _ => by simp [okE] at o
  | n, .card, v, o, _ => by simp [okE] at o
  | n, .crd _, v, o, _ => by simp [okE] at o
theorem okEs_py : ∀ (n : Nat) (ds : List D) (vs : List V), okEs n ds = true → Dens K ba H ds vs → DpAll K H vs (pys ds) ∧ PyData.canLayAll0 (pys ds) = true ∧ PyData.depthAll (pys ds) ≤ n
  | n, [], vs, _, h => by
    rw [dens_nil_inv h]
    exact ⟨.nil, by simp [pys, PyData.canLayAll0], by simp [pys, PyData.depthAll]⟩
  | n, d :: ds, vs, o, h => by
    obtain ⟨v, r, rfl, h1, h2⟩ := dens_cons_inv h
    simp only [okEs, Bool.and_eq_true] at o
    obtain ⟨a1, a2, a3⟩ := okE_py n d v o.1 h1
    obtain ⟨b1, b2, b3⟩ := okEs_py n ds r o.2 h2
    simp only [pys, PyData.canLayAll0, PyData.depthAll, Bool.and_eq_true]
    exact ⟨.cons a1 b1, ⟨a2, b2⟩, by omega⟩
end
theorem okT_py {n : Nat} {B : Hp} {d : D} {v : V} (hn : n ≤ 64) (e : Ex ba B H) (f : BagOff ba B) (o : okE n d = true) (h : DenT K ba B H d v) : Dp K H v (py d) ∧ SeqAt.shaped (py d) = true := by
  have sh : ∀ x : PyData, x.canLay0 = true → x.depth ≤ n → SeqAt.shaped x = true := fun x h1 h2 => by
    show (x.canLay0 && decide (x.depth ≤ 64)) = true
    rw [Bool.and_eq_true]
    exact ⟨h1, decide_eq_true (by omega)⟩
  rcases h with h | ⟨a, vs, ds, rfl, rfl, _, h1, h2⟩
  · obtain ⟨h1, h2, h3⟩ := okE_py n d v o (Den.mono e f _ _ h)
    exact ⟨h1, sh _ h2 h3⟩
  · obtain ⟨h1, h2, h3⟩ := okE_py n (.lst ds) _ o (den_lst' h1 (Dens.mono e f _ _ h2))
    exact ⟨h1, sh _ h2 h3⟩
def D.eq (x y : D) : Option D := if okE 20 x = true ∧ okE 20 y = true then some (.bl (PyData.eqv (py x) (py y))) else none
def D.ne (x y : D) : Option D := if okE 20 x = true ∧ okE 20 y = true then some (.bl (!PyData.eqv (py x) (py y))) else none
variable {g : Gx}
theorem od_eq : OpD g K (rEqD K) D.eq := by
  intro ba B H bs x y z vx vy hz e f bi dx dy Q q
  obtain ⟨⟨h1, h2⟩, rfl⟩ := of_ite hz
  obtain ⟨a1, a2⟩ := okT_py (by decide) e f h1 dx
  obtain ⟨b1, b2⟩ := okT_py (by decide) e f h2 dy
  exact ⟨_, _, a1, b1, a2, b2, q _ B H (Step.refl e) bi den_bl'⟩
theorem od_ne : OpD g K (rNeD K) D.ne := by
  intro ba B H bs x y z vx vy hz e f bi dx dy Q q
  obtain ⟨⟨h1, h2⟩, rfl⟩ := of_ite hz
  obtain ⟨a1, a2⟩ := okT_py (by decide) e f h1 dx
  obtain ⟨b1, b2⟩ := okT_py (by decide) e f h2 dy
  exact ⟨_, _, a1, b1, a2, b2, q _ B H (Step.refl e) bi den_bl'⟩
/-! ### in -/
def flatD : D → Bool
  | .non => true
  | .bl _ => true
  | .int _ => true
  | .str _ => true
  | _ => false
theorem flat_den {d : D} {v : V} (f : flatD d = true) (h : Den K ba H d v) : flatV v = true := by
  cases d with
  | non => rw [den_non h]; rfl
  | bl _ => rw [den_bl h]; rfl
  | int _ => rw [den_int h]; rfl
  | str _ => rw [den_str h]; rfl
  | _ => cases f
theorem eqV_py {d e : D} {v w : V} (f1 : flatD d = true) (f2 : flatD e = true) (h1 : Den K ba H d v) (h2 : Den K ba H e w) : eqV v w = PyData.eqv (py d) (py e) := by
  cases d <;> cases e <;> first
    | (cases f1; done)
    | (cases f2; done)
    | skip
  all_goals (first | rw [den_non h1] | rw [den_bl h1] | rw [den_int h1] | rw [den_str h1])
  all_goals (first | rw [den_non h2] | rw [den_bl h2] | rw [den_int h2] | rw [den_str h2])
  all_goals simp only [py, PyData.eqv, eqV]
theorem inV_py {e : D} {w : V} (f2 : flatD e = true) (h2 : Den K ba H e w) : ∀ {ds : List D} {vs : List V}, ds.all flatD = true → Dens K ba H ds vs → vs.all flatV = true ∧ inV w vs = ds.any fun d => PyData.eqv (py d) (py e)
  | [], _, _, h => by
    rw [dens_nil_inv h]
    exact ⟨rfl, rfl⟩
  | d :: ds, _, f, h => by
    obtain ⟨v, r, rfl, h1, t⟩ := dens_cons_inv h
    rw [List.all_cons, Bool.and_eq_true] at f
    obtain ⟨a1, a2⟩ := inV_py f2 h2 f.2 t
    refine ⟨by rw [List.all_cons, flat_den f.1 h1, a1]; rfl, ?_⟩
    show (eqV v w || inV w r) = _
    rw [eqV_py f.1 f2 h1 h2, a2, List.any_cons]
/-- x in y -/
def D.isin : D → D → Option D
  | .str x, .str y => match x.cps.toList with
    | [c] => some (.bl (decide (c ∈ y.cps.toList)))
    | _ => none
  | x, .tup ds => if flatD x = true ∧ ds.all flatD = true then some (.bl (ds.any fun d => PyData.eqv (py d) (py x))) else none
  | x, .lst ds => if okE 20 x = true ∧ okEs 20 ds = true then some (.bl (ds.any fun d => PyData.eqv (py d) (py x))) else none
  | _, _ => none
def D.notin (x y : D) : Option D := match D.isin x y with
  | some (.bl b) => some (.bl (!b))
  | _ => none
def rInA (K : PySem.W.Frag) (neg : Bool) : R2 := fun x y H Q => (∃ (c : Nat) (z : Str), x = .str ⟨#[c]⟩ ∧ y = .str z ∧ Q (.bl (if neg then !decide (c ∈ z.cps.toList) else decide (c ∈ z.cps.toList))) H) ∨ rIn K neg x y H Q ∨
  (∃ d ds, Dp K H x d ∧ Dp K H y (.list ds) ∧ SeqAt.shaped d = true ∧ SeqAt.shaped (.list ds) = true ∧ Q (.bl (if neg then !(ds.any fun z => PyData.eqv z d) else ds.any fun z => PyData.eqv z d)) H)
theorem op_inA {X : Cx} (hu : X.A.units + 65 < cLine) : OpR X (compareOp .In) (rInA X.K false) := op_in_sign.or (op_in_seq.or (op_inD hu))
theorem op_notinA {X : Cx} (hu : X.A.units + 65 < cLine) : OpR X (compareOp .NotIn) (rInA X.K true) := op_notIn_sign.or (op_notIn_seq.or (op_notInD hu))
theorem any_pys (p : PyData → Bool) : ∀ ds : List D, (pys ds).any p = ds.any fun d => p (py d)
  | [] => rfl
  | d :: ds => by rw [pys, List.any_cons, List.any_cons, any_pys p ds]
theorem in_core {neg : Bool} {B : Hp} {bs : MS} {x y : D} {b : Bool} {vx vy : V} (hz : D.isin x y = some (.bl b)) (e : Ex ba B H) (f : BagOff ba B) (dx : DenT K ba B H x vx) (dy : DenT K ba B H y vy) (Q : VK) (q : Q (.bl (if neg then !b else b)) H) : rInA K neg vx vy H Q := by
  cases y with
  | str z =>
    cases x with
    | str x =>
      rw [dx.str, dy.str]
      obtain ⟨⟨l⟩⟩ := x
      cases l with
      | nil => cases hz
      | cons c r =>
        cases r with
        | nil =>
          have hz : some (D.bl (decide (c ∈ z.cps.toList))) = some (D.bl b) := hz
          cases hz
          exact .inl ⟨c, z, rfl, rfl, q⟩
        | cons c2 r => cases hz
    | _ => cases hz
  | tup ds =>
    have hz' : (if flatD x = true ∧ ds.all flatD = true then some (D.bl (ds.any fun d => PyData.eqv (py d) (py x))) else none) = some (D.bl b) := by
      cases x <;> exact hz
    obtain ⟨⟨h1, h2⟩, e2⟩ := of_ite hz'
    cases e2
    obtain ⟨a, vs, rfl, ha, da⟩ := dy.tup e f
    have dx' : Den K ba B x vx := dx.den (fun ds z => by rw [z] at h1; cases h1)
    obtain ⟨i1, i2⟩ := inV_py h1 dx' h2 da
    exact .inr (.inl ⟨a, vs, rfl, .inr ha, flat_den h1 dx', i1, by rw [i2]; exact q⟩)
  | lst ds =>
    have hz' : (if okE 20 x = true ∧ okEs 20 ds = true then some (D.bl (ds.any fun d => PyData.eqv (py d) (py x))) else none) = some (D.bl b) := by
      cases x <;> exact hz
    obtain ⟨⟨h1, h2⟩, e2⟩ := of_ite hz'
    cases e2
    obtain ⟨a1, a2⟩ := okT_py (by decide) e f h1 dx
    obtain ⟨b1, b2⟩ := okT_py (n := 21) (by decide) e f (show okE 21 (.lst ds) = true by simp only [okE]; exact h2) dy
    exact .inr (.inr ⟨_, pys ds, a1, by simpa only [py] using b1, a2, by simpa only [py] using b2, by rw [any_pys]; exact q⟩)
  | _ => cases x <;> cases hz
theorem od_in : OpD g K (rInA K false) D.isin := by
  intro ba B H bs x y z vx vy hz e f bi dx dy Q q
  have hb : ∃ b, z = .bl b := by
    cases y with
    | str w =>
      cases x with
      | str x =>
        obtain ⟨⟨l⟩⟩ := x
        cases l with
        | nil => cases hz
        | cons c r =>
          cases r with
          | nil => exact ⟨_, (Option.some.inj hz).symm⟩
          | cons c2 r => cases hz
      | _ => cases hz
    | tup ds =>
      have hz' : (if flatD x = true ∧ ds.all flatD = true then some (D.bl (ds.any fun d => PyData.eqv (py d) (py x))) else none) = some z := by cases x <;> exact hz
      exact ⟨_, (of_ite hz').2.symm⟩
    | lst ds =>
      have hz' : (if okE 20 x = true ∧ okEs 20 ds = true then some (D.bl (ds.any fun d => PyData.eqv (py d) (py x))) else none) = some z := by cases x <;> exact hz
      exact ⟨_, (of_ite hz').2.symm⟩
    | _ => cases x <;> cases hz
  obtain ⟨b, rfl⟩ := hb
  exact in_core (bs := bs) hz e f dx dy Q (q _ B H (Step.refl e) bi den_bl')
theorem od_notin : OpD g K (rInA K true) D.notin := by
  intro ba B H bs x y z vx vy hz e f bi dx dy Q q
  unfold D.notin at hz
  split at hz
  · rename_i b hb
    cases hz
    exact in_core (bs := bs) hb e f dx dy Q (q _ B H (Step.refl e) bi den_bl')
  · cases hz
end
end DL

set_option Elab.async false
set_option linter.all false
set_option maxRecDepth 100000
set_option maxHeartbeats 4000000
/-! Displays, subscripts, calls. -/
namespace DL
open PySem PySem.Spec PyProof.Rows L2
section
variable {g : Gx} {E : XK} {X : Cx} {K : PySem.W.Frag}
/-! ### argument lists -/
def consM (a : M D) (r : M (List D)) : M (List D) := M.bnd a fun x => M.bnd r fun xs => M.ret (x :: xs)
theorem pa_n : PDA g E X [] tNil (fun _ => M.ret []) := ⟨pa_nil, fun ba B0 H0 σ Γ bs B H s Q hn h1 h2 => h1 [] bs rfl [] B H (Step.refl s.sub) s.bag dens_nil⟩
theorem pab_n : PBA g E X [] tNil (fun _ => M.ret []) := ⟨pa_nil, fun ba B0 H0 σ Γ bs B H s Q hn h1 h2 => h1 [] bs rfl [] B H (Step.refl s.sub) s.bag rfl⟩
theorem pa_c {e : Expr} {es : List Expr} {te : TE} {t : TA} {m : Ga → M D} {ms : Ga → M (List D)} (a : PD g E X e te m) (r : PDA g E X es t ms) (hs : starEach (e :: es) X.env = (false, eval e X.env) :: starEach es X.env := by rfl) :
    PDA g E X (e :: es) (tCons te t) (fun Γ => consM (m Γ) (ms Γ)) := by
  refine ⟨pa_cons a.pe r.pe hs, fun ba B0 H0 σ Γ bs B H s Q hn h1 h2 => ?_⟩
  refine (a.de ba B0 H0 σ Γ bs B H s).bnd (f := fun x => M.bnd (ms Γ) fun xs => M.ret (x :: xs)) hn h2 fun x b1 e1 e1' n1 v B1 H1 t1 i1 d1 x1 => ?_
  have s1 := s.step t1 i1
  refine (r.de ba B0 H0 σ Γ b1 B1 H1 s1).bnd (f := fun xs => M.ret (x :: xs)) n1 x1 fun y b2 e2 e2' n2 u B2 H2 t2 i2 d2 x2 => ?_
  exact h1 (x :: y) b2 (by show M.bnd (m Γ) _ bs = _; rw [e1', e2']; rfl) _ B2 H2 (t1.trans i1 t2) i2 (dens_cons (mono_RD _ _ _ _ _ _ _ t2 s1.off d1) d2)
theorem pab_c {e : Expr} {es : List Expr} {te : TE} {t : TA} {m : Ga → M D} {ms : Ga → M (List D)} (a : PB g E X e te m) (r : PBA g E X es t ms) (hs : starEach (e :: es) X.env = (false, eval e X.env) :: starEach es X.env := by rfl) :
    PBA g E X (e :: es) (tCons te t) (fun Γ => consM (m Γ) (ms Γ)) := by
  refine ⟨pa_cons a.pe r.pe hs, fun ba B0 H0 σ Γ bs B H s Q hn h1 h2 => ?_⟩
  refine (a.de ba B0 H0 σ Γ bs B H s).bnd (f := fun x => M.bnd (ms Γ) fun xs => M.ret (x :: xs)) hn h2 fun x b1 e1 e1' n1 v B1 H1 t1 i1 d1 x1 => ?_
  have s1 := s.step t1 i1
  refine (r.de ba B0 H0 σ Γ b1 B1 H1 s1).bnd (f := fun xs => M.ret (x :: xs)) n1 x1 fun y b2 e2 e2' n2 u B2 H2 t2 i2 d2 x2 => ?_
  exact h1 (x :: y) b2 (by show M.bnd (m Γ) _ bs = _; rw [e1', e2']; rfl) _ B2 H2 (t1.trans i1 t2) i2 ⟨_, _, rfl, mono_RB _ _ _ _ _ _ _ t2 s1.off d1, d2⟩
/-! ### displays -/
def tupK (xs : List D) : M D := if xs.length ≤ 100000 then M.ret (.tup xs) else stuck
def lstK (xs : List D) : M D := if xs.length ≤ 100000 then M.ret (.lst xs) else stuck
theorem tupK_inv {xs : List D} {bs : MS} (h : tupK xs bs ≠ none) : xs.length ≤ 100000 ∧ tupK xs bs = some (.ok (.tup xs), bs) := by
  unfold tupK at h ⊢
  by_cases c : xs.length ≤ 100000
  · rw [if_pos c]; exact ⟨c, rfl⟩
  · rw [if_neg c] at h; exact absurd rfl h
theorem lstK_inv {xs : List D} {bs : MS} (h : lstK xs bs ≠ none) : xs.length ≤ 100000 ∧ lstK xs bs = some (.ok (.lst xs), bs) := by
  unfold lstK at h ⊢
  by_cases c : xs.length ≤ 100000
  · rw [if_pos c]; exact ⟨c, rfl⟩
  · rw [if_neg c] at h; exact absurd rfl h
theorem pd_tup {es : List Expr} {t : TA} {ms : Ga → M (List D)} {k pos} (a : PDA g E X es t ms) : PD g E X (.Tuple es k pos) (tTup t) (fun Γ => M.bnd (ms Γ) tupK) := by
  refine ⟨pe_tup a.pe, fun ba B0 H0 σ Γ bs B H s Q hn h1 h2 => ?_⟩
  refine (a.de ba B0 H0 σ Γ bs B H s).bnd (f := tupK) hn h2 fun x b1 e1 e1' n1 v B1 H1 t1 i1 d1 x1 => ?_
  have s1 := s.step t1 i1
  obtain ⟨l, e2⟩ := tupK_inv n1
  refine ⟨by rw [Dens.length d1]; exact sz5 l, fun p hp => ?_⟩
  have t2 : Step g ba B1 H1 (upd B1 p (.tup v)) (upd H1 p (.tup v)) := Step.new s1.sub hp
  exact h1 _ b1 (e1'.trans e2) _ _ _ (t1.trans i1 t2) (i1.new hp) (den_tup' (SqT.of upd_same) (Dens.mono t2.bb s1.off _ _ d1))
theorem pd_lst {es : List Expr} {t : TA} {ms : Ga → M (List D)} {pos} (a : PDA g E X es t ms) : PD g E X (.List es pos) (tLst t) (fun Γ => M.bnd (ms Γ) lstK) := by
  refine ⟨pe_lst a.pe, fun ba B0 H0 σ Γ bs B H s Q hn h1 h2 => ?_⟩
  refine (a.de ba B0 H0 σ Γ bs B H s).bnd (f := lstK) hn h2 fun x b1 e1 e1' n1 v B1 H1 t1 i1 d1 x1 => ?_
  have s1 := s.step t1 i1
  obtain ⟨l, e2⟩ := lstK_inv n1
  refine ⟨by rw [Dens.length d1]; exact sz5 l, fun p hp => ?_⟩
  have t2 : Step g ba B1 H1 (upd B1 p (.lst v)) (upd H1 p (.lst v)) := Step.new s1.sub hp
  exact h1 _ b1 (e1'.trans e2) _ _ _ (t1.trans i1 t2) (i1.new hp) (den_lst' upd_same (Dens.mono t2.bb s1.off _ _ d1))
/-! a fresh list, for a slot of its own -/
def RN (K : PySem.W.Frag) : Rd' (List D) V := fun ba B H ds v => ∃ a vs, v = .ref a ∧ ¬ ba.has a ∧ B a = none ∧ H a = some (.lst vs) ∧ Dens K ba B ds vs
structure PN (g : Gx) (E : XK) (X : Cx) (e : Expr) (te : TE) (m : Ga → M (List D)) : Prop where
  pe : PE X e te
  /-- the address is new: nothing stood there -/
  de : ∀ ba B0 H0 σ Γ bs B H, Sta g X.K ba B0 H0 σ Γ bs B H → Ev g E (fun ba B' H' ds v => RN X.K ba B' H' ds v ∧ ∀ a, v = .ref a → H a = none) ba te σ B H (m Γ bs)
def lenK (xs : List D) : M (List D) := if xs.length ≤ 100000 then M.ret xs else stuck
theorem lenK_inv {xs : List D} {bs : MS} (h : lenK xs bs ≠ none) : xs.length ≤ 100000 ∧ lenK xs bs = some (.ok xs, bs) := by
  unfold lenK at h ⊢
  by_cases c : xs.length ≤ 100000
  · rw [if_pos c]; exact ⟨c, rfl⟩
  · rw [if_neg c] at h; exact absurd rfl h
theorem pn_lst {es : List Expr} {t : TA} {ms : Ga → M (List D)} {pos} (a : PDA g E X es t ms) : PN g E X (.List es pos) (tLst t) (fun Γ => M.bnd (ms Γ) lenK) := by
  refine ⟨pe_lst a.pe, fun ba B0 H0 σ Γ bs B H s Q hn h1 h2 => ?_⟩
  refine (a.de ba B0 H0 σ Γ bs B H s).bnd (f := lenK) hn h2 fun x b1 e1 e1' n1 v B1 H1 t1 i1 d1 x1 => ?_
  have s1 := s.step t1 i1
  obtain ⟨l, e2⟩ := lenK_inv n1
  refine ⟨by rw [Dens.length d1]; exact sz5 l, fun p hp => ?_⟩
  have t2 : Step g ba B1 H1 B1 (upd H1 p (.lst v)) := Step.newH s1.sub hp
  refine h1 _ b1 (e1'.trans e2) _ B1 _ (t1.trans i1 t2) (i1.new hp) ⟨⟨p, v, rfl, i1.nb hp, s1.sub.dom p hp, upd_same, d1⟩, fun a ha => ?_⟩
  cases ha
  exact t1.hh.dom p hp
/-! ### subscripts -/
def D.ix : D → D → Option D
  | .lst ds, .int i => atI ds i
  | .tup ds, .int i => atI ds i
  | .scr ns, .int i => (atI ns i).map D.int
  | .str z, .int i => if z.length ≤ 100000 then (atI z.cps.toList i).map fun c => .str ⟨#[c]⟩ else none
  | _, _ => none
theorem atI_den {K : PySem.W.Frag} {ba : Mu} {B : Hp} {ds : List D} {vs : List V} {i : Int} {d : D} (h : Dens K ba B ds vs) (e : atI ds i = some d) : ∃ v, atI vs i = some v ∧ Den K ba B d v := by
  unfold atI at e ⊢
  rw [h.length]
  cases q : ixN ds.length i with
  | none => rw [q] at e; cases e
  | some j =>
    rw [q] at e
    exact h.get (i := j) e
theorem od_ix : OpD g K (rIx K) D.ix := by
  intro ba B H bs x y z vx vy hz e f bi dx dy Q q
  cases x <;> cases y <;> first | (exact nomatch (show none = some z from hz)) | skip
  case str.int w i =>
    have hz : (if w.length ≤ 100000 then (atI w.cps.toList i).map (fun c => D.str ⟨#[c]⟩) else none) = some z := hz
    by_cases c : w.length ≤ 100000
    · rw [if_pos c] at hz
      obtain ⟨k, hk, rfl⟩ := Option.map_eq_some_iff.mp hz
      rw [dx.str, dy.int]
      exact .inr (.inr ⟨w, i, k, rfl, rfl, sz5 c, hk, q _ B H (Step.refl e) bi den_str'⟩)
    · rw [if_neg c] at hz
      cases hz
  case tup.int ds i =>
    obtain ⟨a, vs, rfl, ha, da⟩ := dx.tup e f
    obtain ⟨v, h1, h2⟩ := atI_den da (show atI ds i = some z from hz)
    rw [dy.int]
    exact .inr (.inl ⟨a, vs, i, v, rfl, rfl, ha, h1, q _ B H (Step.refl e) bi h2⟩)
  case lst.int ds i =>
    obtain ⟨a, vs, rfl, ha, da⟩ := dx.lst e f
    obtain ⟨v, h1, h2⟩ := atI_den da (show atI ds i = some z from hz)
    rw [dy.int]
    exact .inl ⟨a, vs, i, v, rfl, rfl, SqL.of ha, h1, q _ B H (Step.refl e) bi h2⟩
  case scr.int ns i =>
    obtain ⟨n, hn, rfl⟩ := Option.map_eq_some_iff.mp (show (atI ns i).map D.int = some z from hz)
    obtain ⟨a, rfl, ha⟩ := den_scr (dx.den (fun _ z => by cases z))
    obtain ⟨v, h1, h2⟩ := atI_den (dens_ints ns (K := K) (ba := ba) (H := B)) (i := i) (d := .int n) (by
      unfold atI at hn ⊢
      rw [List.length_map]
      cases q : ixN ns.length i with
      | none => rw [q] at hn; cases hn
      | some j =>
        rw [q] at hn
        show (ns.map D.int)[j]? = _
        have hn' : ns[j]? = some n := hn
        rw [List.getElem?_map, hn']
        rfl)
    rw [dy.int]
    exact .inl ⟨a, _, i, v, rfl, rfl, sqL_ex e f ha, h1, q _ B H (Step.refl e) bi h2⟩
theorem pd_ix {ea eb : Expr} {ta tb : TE} {ma mb : Ga → M D} {pos : Pos} (a : PB g E X ea ta ma) (b : PB g E X eb tb mb) (hs : PlainIx eb := by exact fun _ _ => rfl) : PD g E X (.Subscript ea eb pos) (tOp (rIx X.K) ta tb) (bin D.ix ma mb) :=
  ⟨pe_ix ix_seq a.pe b.pe hs, dg_op od_ix a.de b.de⟩
/-! ### slices -/
def cutL {α : Type} (xs : List α) (lo hi : Option Int) : List α := (xs.drop (HT.sIx xs.length 0 lo)).take (HT.sIx xs.length xs.length hi - HT.sIx xs.length 0 lo)
structure PDO (g : Gx) (E : XK) (X : Cx) (e : Option Expr) (t : TO) (m : Ga → M (Option Int)) : Prop where
  pe : PO X e t
  de : DG g X.K E RE t m
def asI : D → M (Option Int)
  | .int i => M.ret (some i)
  | _ => stuck
theorem po_n : PDO g E X none tNoPart (fun _ => M.ret none) := ⟨po_none, fun ba B0 H0 σ Γ bs B H s Q hn h1 h2 => h1 none bs rfl none B H (Step.refl s.sub) s.bag rfl⟩
theorem po_s {e : Expr} {te : TE} {m : Ga → M D} (a : PB g E X e te m) : PDO g E X (some e) (tPart te) (fun Γ => M.bnd (m Γ) asI) := by
  refine ⟨po_some a.pe, fun ba B0 H0 σ Γ bs B H s Q hn h1 h2 => ?_⟩
  refine (a.de ba B0 H0 σ Γ bs B H s).bnd (f := asI) hn h2 fun x b1 e1 e1' n1 v B1 H1 t1 i1 d1 x1 => ?_
  cases x with
  | int i =>
    have d1 : DenT X.K ba B1 H1 (.int i) v := d1
    exact ⟨i, d1.int, h1 (some i) b1 e1' _ B1 H1 t1 i1 rfl⟩
  | _ => exact absurd rfl n1
def D.cut : D → Option Int → Option Int → Option D
  | .lst ds, lo, hi => some (.lst (cutL ds lo hi))
  | .tup ds, lo, hi => some (.tup (cutL ds lo hi))
  | .str z, lo, hi => if z.length ≤ 100000 then some (.str (cutS z lo hi)) else none
  | _, _, _ => none
def rSlD (K : PySem.W.Frag) : V → Option Int → Option Int → Hp → VK → Prop := fun x lo hi H Q => rSlL K x lo hi H Q ∨ rSlA K x lo hi H Q ∨ rSlS x lo hi H Q
theorem sl_all : SlR X (rSlD X.K) := sl_list.or (sl_tupA.or sl_str)
theorem cut_den {K : PySem.W.Frag} {ba : Mu} {B : Hp} {ds : List D} {vs : List V} {lo hi : Option Int} (h : Dens K ba B ds vs) : Dens K ba B (cutL ds lo hi) (cutV vs lo hi) := by
  unfold cutL cutV
  rw [h.length]
  exact Dens.take _ (Dens.drop _ h)
theorem cutL_whole {α : Type} {xs : List α} {lo hi : Option Int} (h : HT.sIx xs.length 0 lo = 0 ∧ HT.sIx xs.length xs.length hi = xs.length) : cutL xs lo hi = xs := by
  unfold cutL
  rw [h.1, h.2, List.drop_zero, Nat.sub_zero, List.take_length]
theorem sl_den {ba : Mu} {B H : Hp} {bs : MS} {x z : D} {lo hi : Option Int} {vx : V} (hz : D.cut x lo hi = some z) (e : Ex ba B H) (f : BagOff ba B) (bi : BagIs ba bs H) (dx : DenT K ba B H x vx)
    (Q : VK) (q : ∀ v B' H', Step g ba B H B' H' → BagIs ba bs H' → Den K ba B' z v → Q v H') : rSlD K vx lo hi H Q := by
  cases x with
  | lst ds =>
    have hz : some (D.lst (cutL ds lo hi)) = some z := hz
    cases hz
    obtain ⟨a, vs, rfl, ha, da⟩ := dx.lst e f
    refine .inl ⟨a, vs, rfl, SqL.of ha, fun p hp => ?_⟩
    have t : Step g ba B H (upd B p (.lst (cutV vs lo hi))) (upd H p (.lst (cutV vs lo hi))) := Step.new e hp
    exact q _ _ _ t (bi.new hp) (den_lst' upd_same (Dens.mono t.bb f _ _ (cut_den da)))
  | tup ds =>
    have hz : some (D.tup (cutL ds lo hi)) = some z := hz
    cases hz
    obtain ⟨a, vs, rfl, ha, da⟩ := den_tup (dx.den (fun _ z => by cases z))
    refine .inr (.inl ⟨a, vs, rfl, sqT_ex e f ha, fun w => ?_, fun w p hp => ?_⟩)
    · rw [cutL_whole (by rw [← da.length]; exact w)] at q
      exact q _ B H (Step.refl e) bi (den_tup' ha da)
    · have t : Step g ba B H (upd B p (.tup (cutV vs lo hi))) (upd H p (.tup (cutV vs lo hi))) := Step.new e hp
      exact q _ _ _ t (bi.new hp) (den_tup' (SqT.of upd_same) (Dens.mono t.bb f _ _ (cut_den da)))
  | str w =>
    obtain ⟨h1, rfl⟩ := of_ite (show (if w.length ≤ 100000 then some (D.str (cutS w lo hi)) else none) = some z from hz)
    rw [dx.str]
    exact .inr (.inr ⟨w, rfl, sz5 h1, q _ B H (Step.refl e) bi den_str'⟩)
  | _ => exact nomatch (show none = some z from hz)
def cutM (a : M D) (lo hi : M (Option Int)) : M D := M.bnd a fun x => M.bnd lo fun l => M.bnd hi fun h => opt (D.cut x l h)
theorem pd_cut {ea : Expr} {lo hi : Option Expr} {ta : TE} {tl th : TO} {ma : Ga → M D} {ml mh : Ga → M (Option Int)} {pos p2 : Pos} (a : PB g E X ea ta ma) (l : PDO g E X lo tl ml) (h : PDO g E X hi th mh) :
    PD g E X (.Subscript ea (.Slice lo hi none p2) pos) (tSl (rSlD X.K) ta tl th) (fun Γ => cutM (ma Γ) (ml Γ) (mh Γ)) := by
  refine ⟨pe_slice sl_all a.pe l.pe h.pe, fun ba B0 H0 σ Γ bs B H s Q hn h1 h2 => ?_⟩
  refine (a.de ba B0 H0 σ Γ bs B H s).bnd (f := fun x => M.bnd (ml Γ) fun l => M.bnd (mh Γ) fun h => opt (D.cut x l h)) hn h2 fun x b1 e1 e1' n1 v B1 H1 t1 i1 d1 x1 => ?_
  have s1 := s.step t1 i1
  refine (l.de ba B0 H0 σ Γ b1 B1 H1 s1).bnd (f := fun l => M.bnd (mh Γ) fun h => opt (D.cut x l h)) n1 x1 fun lv b2 e2 e2' n2 u B2 H2 t2 i2 d2 x2 => ?_
  have s2 := s1.step t2 i2
  refine (h.de ba B0 H0 σ Γ b2 B2 H2 s2).bnd (f := fun h => opt (D.cut x lv h)) n2 x2 fun hv b3 e3 e3' n3 w B3 H3 t3 i3 d3 x3 => ?_
  have s3 := s2.step t3 i3
  have d2 : u = lv := d2
  have d3 : w = hv := d3
  subst d2 d3
  obtain ⟨z, hz, ho⟩ := opt_some n3
  refine sl_den (g := g) hz s3.sub s3.off i3 (DenT.mono t3 s2.off (DenT.mono t2 s1.off d1)) Q fun y B4 H4 t4 i4 d4 => ?_
  exact h1 z b3 (by show M.bnd (ma Γ) _ bs = _; rw [e1', e2', e3', ho]) y B4 H4 (((t1.trans i1 t2).trans i2 t3).trans i3 t4) i4 d4
/-! ### built-ins called -/
def CallD (g : Gx) (K : PySem.W.Frag) (r : List V → Hp → VK → Prop) (f : List D → Option D) : Prop := ∀ ba B H bs xs z vs, f xs = some z → Ex ba B H → BagOff ba B → BagIs ba bs H → DenTs K ba B H xs vs →
  ∀ Q : VK, (∀ v B' H', Step g ba B H B' H' → BagIs ba bs H' → Den K ba B' z v → Q v H') → r vs H Q
theorem dg_call {r : List V → Hp → VK → Prop} {f : List D → Option D} {t : TA} {ms : Ga → M (List D)} (hf : CallD g K r f) (a : DG g K E (RAB K) t ms) : DG g K E (RD K) (tCB r t) (fun Γ => M.bnd (ms Γ) fun xs => opt (f xs)) := by
  intro ba B0 H0 σ Γ bs B H s Q hn h1 h2
  refine (a ba B0 H0 σ Γ bs B H s).bnd (f := fun xs => opt (f xs)) hn h2 fun x b1 e1 e1' n1 v B1 H1 t1 i1 d1 x1 => ?_
  have s1 := s.step t1 i1
  obtain ⟨z, hz, ho⟩ := opt_some n1
  exact hf ba B1 H1 b1 x z v hz s1.sub s1.off i1 d1 Q fun w B3 H3 t3 i3 d3 => h1 z b1 (e1'.trans ho) w B3 H3 (t1.trans i1 t3) i3 d3
theorem pd_callB {id : String} {r : List V → Hp → VK → Prop} {f : List D → Option D} {x : Str} {p pos : Pos} {e : Expr} {es : List Expr} {t : TA} {ms : Ga → M (List D)} (hc : CallR X (.builtin id) r) (hf : CallD g X.K r f) (hm : X.mg x = none) (hv : bootBuiltins x = some (.builtin id)) (ha : PBA g E X (e :: es) t ms)
    (hg : Gl X x := by rfl) (hn : x ≠ "__name__" := by decide) (hdb : (x == ("__debug__" : Str)) = false := by decide) (he : starEach (e :: es) X.env = (false, eval e X.env) :: starEach es X.env := by rfl) (hpl : (backTo pos (starEach es X.env)).any (·.1) = false := by rfl) :
    PD g E X (.Call (.Name x p) (e :: es) [] pos) (tCB r t) (fun Γ => M.bnd (ms Γ) fun xs => opt (f xs)) := ⟨pe_callB hc hg hm hv ha.pe hn hdb he hpl, dg_call hf ha.de⟩
theorem pd_callTy {T : String} {r : List V → Hp → VK → Prop} {f : List D → Option D} {x : Str} {p pos : Pos} {e : Expr} {es : List Expr} {t : TA} {ms : Ga → M (List D)} (hc : CallR X (.type T) r) (hf : CallD g X.K r f) (hm : X.mg x = none) (hv : bootBuiltins x = some (.type T)) (ha : PBA g E X (e :: es) t ms)
    (hg : Gl X x := by rfl) (hn : x ≠ "__name__" := by decide) (hdb : (x == ("__debug__" : Str)) = false := by decide) (he : starEach (e :: es) X.env = (false, eval e X.env) :: starEach es X.env := by rfl) (hpl : (backTo pos (starEach es X.env)).any (·.1) = false := by rfl) :
    PD g E X (.Call (.Name x p) (e :: es) [] pos) (tCB r t) (fun Γ => M.bnd (ms Γ) fun xs => opt (f xs)) := ⟨pe_callTy hc hg hm hv ha.pe hn hdb he hpl, dg_call hf ha.de⟩
end
end DL

set_option Elab.async false
set_option linter.all false
set_option maxRecDepth 100000
set_option maxHeartbeats 4000000
/-! Statements. -/
namespace DL
open PySem PySem.Spec PyProof.Rows L2
inductive Fl where
  | nx (Γ : Ga) | rt (d : D) | bk (Γ : Ga) | ct (Γ : Ga)
/-- what is wanted behind a statement, told on data -/
structure Wish (g : Gx) (K : PySem.W.Frag) (E : XK) (ba : Mu) (B0 H0 B : Hp) (Dn : Ends) (r : Option (Res Fl × MS)) : Prop where
  nn : r ≠ none
  nx : ∀ Γ' bs', r = some (.ok (.nx Γ'), bs') → ∀ σ' B' H', Sta g K ba B0 H0 σ' Γ' bs' B' H' → Ex ba B B' → Dn.nx σ' H'
  bk : ∀ Γ' bs', r = some (.ok (.bk Γ'), bs') → ∀ σ' B' H', Sta g K ba B0 H0 σ' Γ' bs' B' H' → Ex ba B B' → Dn.bk σ' H'
  ct : ∀ Γ' bs', r = some (.ok (.ct Γ'), bs') → ∀ σ' B' H', Sta g K ba B0 H0 σ' Γ' bs' B' H' → Ex ba B B' → Dn.ct σ' H'
  rt : ∀ x bs', r = some (.ok (.rt x), bs') → ∀ v B' H', Step g ba B0 H0 B' H' → BagIs ba bs' H' → Den K ba B' x v → Dn.rt v H'
  ex : ∀ c bs', r = some (.ex c, bs') → ∀ B' H', Step g ba B0 H0 B' H' → BagIs ba bs' H' → E (.ref (g.ca c)) none H'
def DS (g : Gx) (K : PySem.W.Frag) (E : XK) (t : TS) (m : Ga → M Fl) : Prop :=
  ∀ ba B0 H0 σ Γ bs B H Dn, Sta g K ba B0 H0 σ Γ bs B H → Wish g K E ba B0 H0 B Dn (m Γ bs) → t Dn σ H
structure PDS (g : Gx) (E : XK) (X : Cx) (st : Stmt) (t : TS) (m : Ga → M Fl) : Prop where
  pe : PS X st t
  de : DS g X.K E t m
structure PDSs (g : Gx) (E : XK) (X : Cx) (st : List Stmt) (t : TS) (m : Ga → M Fl) : Prop where
  pe : PSs X st t
  de : DS g X.K E t m
section
variable {g : Gx} {E : XK} {X : Cx} {K : PySem.W.Frag} {ba : Mu} {B0 H0 B H : Hp} {σ : L2.St} {Γ : Ga} {bs : MS} {Dn : Ends}
theorem Wish.xw {α : Type} {m : M α} {f : α → M Fl} (w : Wish g K E ba B0 H0 B Dn (M.bnd m f bs)) (s : Sta g K ba B0 H0 σ Γ bs B H) : Xw g E ba B H (M.bnd m f bs) :=
  fun c bs' e B' H' t b => w.ex c bs' e B' H' (s.ent.trans s.bag t) b
theorem Wish.cast {r r' : Option (Res Fl × MS)} (w : Wish g K E ba B0 H0 B Dn r) (e : r = r') : Wish g K E ba B0 H0 B Dn r' := by rw [← e]; exact w
theorem Wish.mono {B1 : Hp} {r : Option (Res Fl × MS)} (w : Wish g K E ba B0 H0 B Dn r) (e : Ex ba B B1) : Wish g K E ba B0 H0 B1 Dn r :=
  ⟨w.nn, fun Γ' bs' z σ' B' H' s e2 => w.nx Γ' bs' z σ' B' H' s (e.trans e2), fun Γ' bs' z σ' B' H' s e2 => w.bk Γ' bs' z σ' B' H' s (e.trans e2), fun Γ' bs' z σ' B' H' s e2 => w.ct Γ' bs' z σ' B' H' s (e.trans e2), w.rt, w.ex⟩
/-- an expression at the head of a statement -/
theorem Ev.stm {α β : Type} {R : Rd' α β} {t : Tx β} {m : M α} {f : α → M Fl} {P : β → Hp → Prop} (h : Ev g E R ba t σ B H (m bs)) (s : Sta g K ba B0 H0 σ Γ bs B H) (w : Wish g K E ba B0 H0 B Dn (M.bnd m f bs))
    (k : ∀ x b1 v B1 H1, Sta g K ba B0 H0 σ Γ b1 B1 H1 → Step g ba B H B1 H1 → R ba B1 H1 x v → Wish g K E ba B0 H0 B1 Dn (f x b1) → P v H1) : t σ H P :=
  h.bnd w.nn (w.xw s) fun x b1 e1 e1' n1 v B1 H1 t1 i1 d1 x1 => k x b1 v B1 H1 (s.step t1 i1) t1 d1 ((w.cast e1').mono t1.bb)
/-! ### blocks -/
def seqK (m2 : Ga → M Fl) : Fl → M Fl
  | .nx Γ => m2 Γ
  | f => M.ret f
def seqM (m1 m2 : Ga → M Fl) : Ga → M Fl := fun Γ => M.bnd (m1 Γ) (seqK m2)
def nxM : Ga → M Fl := fun Γ => M.ret (.nx Γ)
theorem pds_nil : PDSs g E X [] tNext nxM := ⟨pss_nil, fun ba B0 H0 σ Γ bs B H Dn s w => w.nx Γ bs rfl σ B H s (Ex.refl _)⟩
theorem ds_seq {t u : TS} {m1 m2 : Ga → M Fl} (h1 : DS g K E t m1) (h2 : DS g K E u m2) : DS g K E (tSeq t u) (seqM m1 m2) := by
  intro ba B0 H0 σ Γ bs B H Dn s w
  refine h1 ba B0 H0 σ Γ bs B H { Dn with nx := u Dn } s ?_
  cases q : m1 Γ bs with
  | none => exact absurd (bnd_none q) w.nn
  | some r =>
    obtain ⟨r, b1⟩ := r
    cases r with
    | ex c =>
      have w1 := w.cast (bnd_ex q)
      exact ⟨fun z => (nomatch z), fun _ _ z => (nomatch z), fun _ _ z => (nomatch z), fun _ _ z => (nomatch z), fun _ _ z => (nomatch z), fun c' bs' z => w1.ex c' bs' z⟩
    | ok f =>
      have w1 := w.cast (bnd_ok q)
      cases f with
      | nx Γ' => exact ⟨fun z => (nomatch z), fun Γ2 bs' z σ' B' H' s' e' => by cases z; exact h2 ba B0 H0 σ' Γ' b1 B' H' Dn s' (w1.mono e'), fun _ _ z => (nomatch z), fun _ _ z => (nomatch z), fun _ _ z => (nomatch z), fun c' bs' z => (nomatch z)⟩
      | rt d => exact ⟨fun z => (nomatch z), fun _ _ z => (nomatch z), fun _ _ z => (nomatch z), fun _ _ z => (nomatch z), fun x bs' z => w1.rt x bs' z, fun c' bs' z => (nomatch z)⟩
      | bk Γ' => exact ⟨fun z => (nomatch z), fun _ _ z => (nomatch z), fun Γ2 bs' z => w1.bk Γ2 bs' z, fun _ _ z => (nomatch z), fun _ _ z => (nomatch z), fun c' bs' z => (nomatch z)⟩
      | ct Γ' => exact ⟨fun z => (nomatch z), fun _ _ z => (nomatch z), fun _ _ z => (nomatch z), fun Γ2 bs' z => w1.ct Γ2 bs' z, fun _ _ z => (nomatch z), fun c' bs' z => (nomatch z)⟩
theorem pds_cons {st : Stmt} {rest : List Stmt} {t u : TS} {m1 m2 : Ga → M Fl} (h1 : PDS g E X st t m1) (h2 : PDSs g E X rest u m2) : PDSs g E X (st :: rest) (tSeq t u) (seqM m1 m2) := ⟨pss_cons h1.pe h2.pe, ds_seq h1.de h2.de⟩
theorem pds_one {st : Stmt} {t : TS} {m : Ga → M Fl} (h1 : PDS g E X st t m) : PDSs g E X [st] t m := ⟨pss_one h1.pe, h1.de⟩
/-! ### simple statements -/
def retM (m : Ga → M D) : Ga → M Fl := fun Γ => M.bnd (m Γ) fun x => M.ret (.rt x)
theorem pds_ret {e : Expr} {te : TE} {m : Ga → M D} {pos : Pos} (a : PD g E X e te m) : PDS g E X (.Return (some e) pos) (tRet te) (retM m) := by
  refine ⟨ps_ret a.pe, fun ba B0 H0 σ Γ bs B H Dn s w => ?_⟩
  exact (a.de ba B0 H0 σ Γ bs B H s).stm (f := fun x => M.ret (.rt x)) s w fun x b1 v B1 H1 s1 t1 d1 w1 => w1.rt x b1 rfl v B1 H1 s1.ent s1.bag d1
theorem pds_retN {pos : Pos} : PDS g E X (.Return none pos) tRetN (fun _ => M.ret (.rt .non)) :=
  ⟨ps_retN, fun ba B0 H0 σ Γ bs B H Dn s w => w.rt .non bs rfl _ B H s.ent s.bag den_non'⟩
theorem pds_pass {pos : Pos} : PDS g E X (.Pass pos) tNext nxM := ⟨ps_pass, fun ba B0 H0 σ Γ bs B H Dn s w => w.nx Γ bs rfl σ B H s (Ex.refl _)⟩
theorem pds_break {pos : Pos} : PDS g E X (.Break pos) tBreak (fun Γ => M.ret (.bk Γ)) := ⟨ps_break, fun ba B0 H0 σ Γ bs B H Dn s w => w.bk Γ bs rfl σ B H s (Ex.refl _)⟩
theorem pds_cont {pos : Pos} : PDS g E X (.Continue pos) tCont (fun Γ => M.ret (.ct Γ)) := ⟨ps_continue, fun ba B0 H0 σ Γ bs B H Dn s w => w.ct Γ bs rfl σ B H s (Ex.refl _)⟩
def dropM (m : Ga → M D) : Ga → M Fl := fun Γ => M.bnd (m Γ) fun _ => M.ret (.nx Γ)
theorem pds_expr {e : Expr} {te : TE} {m : Ga → M D} {pos : Pos} (a : PD g E X e te m) (hs : swapsWith e none pos.line X.env = pure false := by rfl) : PDS g E X (.Expr e pos) (tDrop te) (dropM m) := by
  refine ⟨ps_expr a.pe hs, fun ba B0 H0 σ Γ bs B H Dn s w => ?_⟩
  exact (a.de ba B0 H0 σ Γ bs B H s).stm (f := fun _ => M.ret (.nx Γ)) s w fun x b1 v B1 H1 s1 t1 d1 w1 => w1.nx Γ b1 rfl σ B1 H1 s1 (Ex.refl _)
theorem pds_if {c : Expr} {a b : List Stmt} {tc : TT} {t u : TS} {mc : Ga → M Bool} {ma mb : Ga → M Fl} {pos : Pos} (hc : PDT g E X c tc mc) (ha : PDSs g E X a t ma) (hb : PDSs g E X b u mb) :
    PDS g E X (.If c a b pos) (tIfS tc t u) (fun Γ => ifM (mc Γ) (ma Γ) (mb Γ)) := by
  refine ⟨ps_if hc.pe ha.pe hb.pe, fun ba B0 H0 σ Γ bs B H Dn s w => ?_⟩
  refine (hc.de ba B0 H0 σ Γ bs B H s).stm (f := fun k => if k = true then ma Γ else mb Γ) s w fun x b1 v B1 H1 s1 t1 d1 w1 => ?_
  have d1 : v = x := d1
  subst d1
  cases v with
  | true => exact ha.de ba B0 H0 σ Γ b1 B1 H1 Dn s1 w1
  | false => exact hb.de ba B0 H0 σ Γ b1 B1 H1 Dn s1 w1
/-! ### slots -/
theorem set_get {α : Type} {l : List α} {i j : Nat} {x y : α} (h : (l.set i x)[j]? = some y) : (i = j ∧ y = x) ∨ (i ≠ j ∧ l[j]? = some y) := by
  by_cases e : i = j
  · subst e
    rw [List.getElem?_set] at h
    simp only [if_true] at h
    split at h
    · exact .inl ⟨rfl, (Option.some.inj h).symm⟩
    · cases h
  · rw [List.getElem?_set_ne e] at h
    exact .inr ⟨e, h⟩
theorem Sta.set {i : Nat} {v : V} {x : D} (s : Sta g K ba B0 H0 σ Γ bs B H) (d : Den K ba B x v) : Sta g K ba B0 H0 (σ.set i (some v)) (Γ.set i (.d x)) bs B H := by
  refine ⟨by simpa using s.len, s.gd, s.tab, s.ent, s.off, s.bag, fun j y hy => ?_, fun j k a ds es h1 h2 h3 h4 => ?_, s.cst⟩
  · rcases set_get hy with ⟨e, e2⟩ | ⟨e, h⟩
    · subst e
      subst e2
      have hi : i < σ.length := by
        have := (List.getElem?_eq_some_iff.mp hy).1
        rw [List.length_set, s.len] at this
        exact this
      rw [List.getElem?_set_self hi]
      exact ⟨v, rfl, d⟩
    · rw [List.getElem?_set_ne e]
      exact s.slot j y h
  · rcases set_get h1 with ⟨e, z⟩ | ⟨e1, h1⟩
    · cases z
    rcases set_get h2 with ⟨e, z⟩ | ⟨e2, h2⟩
    · cases z
    rw [List.getElem?_set_ne e1] at h3
    rw [List.getElem?_set_ne e2] at h4
    exact s.inj j k a ds es h1 h2 h3 h4
/-- a slot's own list, new at its address -/
theorem Sta.setOwn {B1 H1 : Hp} {b1 : MS} {i : Nat} {v : V} {ds : List D} (s : Sta g K ba B0 H0 σ Γ bs B H) (s1 : Sta g K ba B0 H0 σ Γ b1 B1 H1) (r : RN K ba B1 H1 ds v) (nw : ∀ a, v = .ref a → H a = none) :
    Sta g K ba B0 H0 (σ.set i (some v)) (Γ.set i (.own ds)) b1 B1 H1 := by
  obtain ⟨a, vs, rfl, na, nb, ha, hd⟩ := r
  have na0 := nw a rfl
  have other : ∀ (j : Nat) es, Γ[j]? = some (.own es) → σ[j]? = some (some (.ref a)) → False := fun j es h1 h2 => by
    obtain ⟨a', vs', e1, _, _, _, h3, _⟩ := s.slot j _ h1
    have e2 := join_some e1
    rw [h2] at e2
    cases e2
    rw [na0] at h3
    cases h3
  refine ⟨by simpa using s.len, s.gd, s1.tab, s1.ent, s1.off, s1.bag, fun j y hy => ?_, fun j k b ds' es h1 h2 h3 h4 => ?_, s1.cst⟩
  · rcases set_get hy with ⟨e, e2⟩ | ⟨e, h⟩
    · subst e
      subst e2
      have hi : i < σ.length := by
        have := (List.getElem?_eq_some_iff.mp hy).1
        rw [List.length_set, s.len] at this
        exact this
      rw [List.getElem?_set_self hi]
      exact ⟨a, vs, rfl, na, s.ent.hh.dom a na0, nb, ha, hd⟩
    · rw [List.getElem?_set_ne e]
      exact s1.slot j y h
  · rcases set_get h1 with ⟨e1, z1⟩ | ⟨e1, h1⟩
    · rcases set_get h2 with ⟨e2, z2⟩ | ⟨e2, h2⟩
      · exact e1.symm.trans e2
      · rw [List.getElem?_set_ne e2] at h4
        subst e1
        have hi : i < σ.length := by
          have := (List.getElem?_eq_some_iff.mp h3).1
          rwa [List.length_set] at this
        rw [List.getElem?_set_self hi] at h3
        cases h3
        exact (other k es h2 h4).elim
    · rw [List.getElem?_set_ne e1] at h3
      rcases set_get h2 with ⟨e2, z2⟩ | ⟨e2, h2⟩
      · subst e2
        have hi : i < σ.length := by
          have := (List.getElem?_eq_some_iff.mp h4).1
          rwa [List.length_set] at this
        rw [List.getElem?_set_self hi] at h4
        cases h4
        exact (other j ds' h1 h3).elim
      · rw [List.getElem?_set_ne e2] at h4
        exact s.inj j k b ds' es h1 h2 h3 h4
/-! ### targets -/
/-- storing a datum in a target -/
def DT (g : Gx) (K : PySem.W.Frag) (tg : TG) (m : D → Ga → Option Ga) : Prop :=
  ∀ ba B0 H0 σ Γ bs B H x v Γ' Q, Sta g K ba B0 H0 σ Γ bs B H → Den K ba B x v → m x Γ = some Γ' → (∀ σ', Sta g K ba B0 H0 σ' Γ' bs B H → Q σ' H) → tg v σ H Q
structure PDG (g : Gx) (X : Cx) (target : Expr) (tg : TG) (m : D → Ga → Option Ga) : Prop where
  pe : PG X target tg
  de : DT g X.K tg m
def DTs (g : Gx) (K : PySem.W.Frag) (tg : TGs) (m : List D → Ga → Option Ga) : Prop :=
  ∀ ba B0 H0 σ Γ bs B H x v Γ' Q, Sta g K ba B0 H0 σ Γ bs B H → Dens K ba B x v → m x Γ = some Γ' → (∀ σ', Sta g K ba B0 H0 σ' Γ' bs B H → Q σ' H) → tg v σ H Q
structure PDGs (g : Gx) (X : Cx) (ts : List Expr) (tg : TGs) (m : List D → Ga → Option Ga) : Prop where
  pe : PGs X ts tg
  de : DTs g X.K tg m
def gN (i : Nat) : D → Ga → Option Ga := fun x Γ => some (Γ.set i (.d x))
theorem pg_n {i : Nat} {target : Expr} (h : PG X target (gName i)) : PDG g X target (gName i) (gN i) :=
  ⟨h, fun ba B0 H0 σ Γ bs B H x v Γ' Q s d e q => by
    cases e
    exact q _ (s.set d)⟩
def gsNil : List D → Ga → Option Ga
  | [], Γ => some Γ
  | _, _ => none
def gsCons (m : D → Ga → Option Ga) (ms : List D → Ga → Option Ga) : List D → Ga → Option Ga
  | x :: xs, Γ => (m x Γ).bind (ms xs)
  | _, _ => none
theorem pgs_n : PDGs g X [] gNil gsNil := ⟨pgs_nil, fun ba B0 H0 σ Γ bs B H x v Γ' Q s d e q => by
  cases x with
  | nil =>
    cases e
    exact ⟨dens_nil_inv d, q σ s⟩
  | cons y ys => cases e⟩
theorem pgs_c {e : Expr} {es : List Expr} {t : TG} {u : TGs} {m : D → Ga → Option Ga} {ms : List D → Ga → Option Ga} (a : PDG g X e t m) (r : PDGs g X es u ms) (hs : (assignEach (e :: es) X.env).map (·.2) = assign e X.env :: (assignEach es X.env).map (·.2) := by rfl) :
    PDGs g X (e :: es) (gCons t u) (gsCons m ms) := ⟨pgs_cons a.pe r.pe hs, fun ba B0 H0 σ Γ bs B H x v Γ' Q s d e q => by
  cases x with
  | nil => cases e
  | cons y ys =>
    obtain ⟨w, ws, rfl, h1, h2⟩ := dens_cons_inv d
    obtain ⟨Γ1, e1, e2⟩ := Option.bind_eq_some_iff.mp (show (m y Γ).bind (ms ys) = some Γ' from e)
    exact ⟨w, ws, rfl, a.de ba B0 H0 σ Γ bs B H y w Γ1 _ s h1 e1 fun σ1 s1 => r.de ba B0 H0 σ1 Γ1 bs B H ys ws Γ' Q s1 h2 e2 q⟩⟩
def gT (n : Nat) (ms : List D → Ga → Option Ga) : D → Ga → Option Ga
  | .tup ds, Γ => if ds.length = n then ms ds Γ else none
  | _, _ => none
theorem pg_t {es : List Expr} {k : Nat} {t : TGs} {n : Nat} {ms : List D → Ga → Option Ga} {pos : Pos} (hc : X.calm = true) (h : PDGs g X es t ms) (hn : (assignEach es X.env).length = n := by rfl) (hst : (assignEach es X.env).findIdx? (·.1) = none := by rfl) :
    PDG g X (.Tuple es k pos) (gTup X.K n t) (gT n ms) := ⟨pg_tup hc h.pe hn hst, fun ba B0 H0 σ Γ bs B H x v Γ' Q s d e q => by
  cases x with
  | tup ds =>
    obtain ⟨a, vs, rfl, ha, hd⟩ := den_tup d
    have e : (if ds.length = n then ms ds Γ else none) = some Γ' := e
    by_cases c : ds.length = n
    · rw [if_pos c] at e
      exact ⟨a, vs, rfl, sqT_ex s.sub s.off ha, hd.length.trans c, h.de ba B0 H0 σ Γ bs B H ds vs Γ' Q s hd e q⟩
    · rw [if_neg c] at e
      cases e
  | _ => cases e⟩
/-! ### assignments -/
def asgM (m : Ga → M D) (st : D → Ga → Option Ga) : Ga → M Fl := fun Γ => M.bnd (m Γ) fun x => M.bnd (opt (st x Γ)) fun Γ' => M.ret (.nx Γ')
theorem ds_asg {te : TE} {tg : TG} {m : Ga → M D} {st : D → Ga → Option Ga} (a : DG g K E (RD K) te m) (h : DT g K tg st) : DS g K E (tAsg te tg) (asgM m st) := by
  intro ba B0 H0 σ Γ bs B H Dn s w
  refine (a ba B0 H0 σ Γ bs B H s).stm (f := fun x => M.bnd (opt (st x Γ)) fun Γ' => M.ret (.nx Γ')) s w fun x b1 v B1 H1 s1 t1 d1 w1 => ?_
  cases q : st x Γ with
  | none => rw [q] at w1; exact absurd rfl w1.nn
  | some Γ' =>
    rw [q] at w1
    exact h ba B0 H0 σ Γ b1 B1 H1 x v Γ' Dn.nx s1 d1 q fun σ' s' => w1.nx Γ' b1 rfl σ' B1 H1 s' (Ex.refl _)
theorem pds_asg {tg e : Expr} {te : TE} {t : TG} {m : Ga → M D} {st : D → Ga → Option Ga} {pos : Pos} (a : PD g E X e te m) (h : PDG g X tg t st) (hs : swapsWithSole [tg] e pos.line X.env = pure false := by rfl) (hw : swappedStores [tg] e X.env = pure none := by rfl)
    (h1 : (assignEach [tg] X.env).map (·.2) = [assign tg X.env] := by rfl) : PDS g E X (.Assign [tg] e pos) (tAsg te t) (asgM m st) := ⟨ps_asg a.pe h.pe hs hw h1, ds_asg a.de h.de⟩
/-- name = value -/
theorem pds_set {i : Nat} {x : Str} {e : Expr} {te : TE} {m : Ga → M D} {pos pos' : Pos} (h : PS X (.Assign [.Name x pos'] e pos) (tAsg te (gName i))) (a : DG g X.K E (RD X.K) te m) : PDS g E X (.Assign [.Name x pos'] e pos) (tAsg te (gName i)) (asgM m (gN i)) :=
  ⟨h, ds_asg a fun ba B0 H0 σ Γ bs B H x v Γ' Q s d e q => by
    cases e
    exact q _ (s.set d)⟩
def ownM (i : Nat) (m : Ga → M (List D)) : Ga → M Fl := fun Γ => M.bnd (m Γ) fun ds => M.ret (.nx (Γ.set i (.own ds)))
/-- name = a fresh list -/
theorem pds_own {i : Nat} {st : Stmt} {te : TE} {m : Ga → M (List D)} (h : PS X st (tAsg te (gName i)))
    (a : ∀ ba B0 H0 σ Γ bs B H, Sta g X.K ba B0 H0 σ Γ bs B H → Ev g E (fun ba B' H' ds v => RN X.K ba B' H' ds v ∧ ∀ a, v = .ref a → H a = none) ba te σ B H (m Γ bs)) : PDS g E X st (tAsg te (gName i)) (ownM i m) := by
  refine ⟨h, fun ba B0 H0 σ Γ bs B H Dn s w => ?_⟩
  refine (a ba B0 H0 σ Γ bs B H s).stm (f := fun ds => M.ret (.nx (Γ.set i (.own ds)))) s w fun x b1 v B1 H1 s1 t1 d1 w1 => ?_
  exact w1.nx _ b1 rfl _ B1 H1 (s.setOwn s1 d1.1 d1.2) (Ex.refl _)
/-! ### an own list grows; it is frozen -/
theorem tabs_upd {a : Addr} {vs ws : List V} {H : Hp} (h : H a = some (.lst vs)) (t : TabsQ g.T H) : TabsQ g.T (upd H a (.lst ws)) := 
  t.keep ⟨fun b _ e => by rw [upd_ne (ne_of e h (fun z => nomatch z))]; exact e, fun b _ e => by rw [upd_ne (ne_of e h (fun z => nomatch z))]; exact e⟩
theorem Sta.grow {i : Nat} {a : Addr} {ws : List V} {ds es : List D} (s : Sta g K ba B0 H0 σ Γ bs B H) (hi : Γ[i]? = some (.own ds)) (ha : σ[i]? = some (some (.ref a))) (hw : Dens K ba B es ws) :
    Sta g K ba B0 H0 σ (Γ.set i (.own es)) bs B (upd H a (.lst ws)) := by
  obtain ⟨a', vs', e1, na, n0, nb, h1, hd⟩ := s.slot i _ hi
  have e2 := join_some e1
  rw [ha] at e2
  cases e2
  have dm : ∀ b, upd H a (.lst ws) b = none → H b = none := fun b z => (upd_dom z).2
  refine ⟨by simpa using s.len, s.gd, tabs_upd h1 s.tab, ⟨s.ent.bb, ⟨fun b o nb' hb nt => ?_, fun b z => s.ent.hh.dom b (dm b z)⟩, ⟨fun b o nb' hb nt => ?_, fun b z => s.ent.bh.dom b (dm b z)⟩, s.ent.nw, fun t => tabs_upd h1 (s.ent.tb t)⟩, s.off, s.bag.updl h1 na, fun j y hy => ?_, fun j k b ds' es' h1' h2' h3 h4 => ?_, s.cst⟩
  · rw [upd_ne (fun z => by rw [z, n0] at hb; cases hb)]
    exact s.ent.hh.keep b o nb' hb nt
  · rw [upd_ne (fun z => by rw [z, nb] at hb; cases hb)]
    exact s.ent.bh.keep b o nb' hb nt
  · rcases set_get hy with ⟨e, e2⟩ | ⟨e, h⟩
    · subst e
      subst e2
      rw [ha]
      exact ⟨a, ws, rfl, na, n0, nb, upd_same, hw⟩
    · have q := s.slot j y h
      cases y with
      | no => exact True.intro
      | d x => exact q
      | own ds' =>
        obtain ⟨b, us, f1, f2, f3, f4, f5, f6⟩ := q
        have nba : b ≠ a := fun z => e (s.inj i j a ds ds' hi h ha (by rw [← z]; exact join_some f1))
        exact ⟨b, us, f1, f2, f3, f4, by rw [upd_ne nba]; exact f5, f6⟩
  · have g1 : ∃ es1, Γ[j]? = some (.own es1) := by
      rcases set_get h1' with ⟨e, z⟩ | ⟨e, h⟩
      · subst e; exact ⟨ds, hi⟩
      · exact ⟨_, h⟩
    have g2 : ∃ es2, Γ[k]? = some (.own es2) := by
      rcases set_get h2' with ⟨e, z⟩ | ⟨e, h⟩
      · subst e; exact ⟨ds, hi⟩
      · exact ⟨_, h⟩
    obtain ⟨_, q1⟩ := g1
    obtain ⟨_, q2⟩ := g2
    exact s.inj j k b _ _ q1 q2 h3 h4
def appK (i : Nat) (Γ : Ga) (ds : List D) (x : D) : M Fl := if ds.length < 100000 then M.ret (.nx (Γ.set i (.own (ds ++ [x])))) else stuck
def appM (i : Nat) (m : Ga → M D) : Ga → M Fl := fun Γ => match Γ[i]? with
  | some (.own ds) => M.bnd (m Γ) (appK i Γ ds)
  | _ => stuck
/-- xs.append(e), xs a slot's own list -/
theorem ds_append {i : Nat} {te : TE} {m : Ga → M D} (a : DG g K E (RD K) te m) : DS g K E (tDrop (tBM K "list" rAppend (tVar i) (tCons te tNil))) (appM i m) := by
  intro ba B0 H0 σ Γ bs B H Dn s w
  cases q : Γ[i]? with
  | none => exact absurd (show appM i m Γ bs = none by unfold appM; rw [q]; rfl) w.nn
  | some y =>
    cases y with
    | no => exact absurd (show appM i m Γ bs = none by unfold appM; rw [q]; rfl) w.nn
    | d x => exact absurd (show appM i m Γ bs = none by unfold appM; rw [q]; rfl) w.nn
    | own ds =>
      have w := w.cast (show appM i m Γ bs = M.bnd (m Γ) (appK i Γ ds) bs by unfold appM; rw [q])
      obtain ⟨p, vs, e1, na, n0, nb, h1, hd⟩ := s.slot i _ q
      refine ⟨.ref p, join_some e1, .inl ⟨rfl, vs, SqL.of h1⟩, ?_⟩
      refine (a ba B0 H0 σ Γ bs B H s).stm (f := appK i Γ ds) s w fun x b1 v B1 H1 s1 t1 d1 w1 => ?_
      unfold appK at w1
      by_cases c : ds.length < 100000
      · rw [if_pos c] at w1
        obtain ⟨p', vs', e1', na', n0', nb', h1', hd'⟩ := s1.slot i _ q
        rw [e1] at e1'
        cases e1'
        refine ⟨p, vs', v, rfl, rfl, h1', by rw [hd'.length]; exact Nat.lt_of_lt_of_le c (by decide), ?_⟩
        exact w1.nx _ b1 rfl σ B1 _ (s1.grow q (join_some e1) (Dens.append hd' (dens_cons d1 dens_nil))) (Ex.refl _)
      · rw [if_neg c] at w1
        exact absurd rfl w1.nn
theorem pds_append {i : Nat} {x e : Expr} {te : TE} {m : Ga → M D} {apos cpos pos : Pos} (hx : PE X x (tVar i)) (a : PD g E X e te m) (hs : starEach (e :: []) X.env = (false, eval e X.env) :: starEach [] X.env := by rfl)
    (h : ∀ t, PE X x (tVar i) → PA X [e] t → PS X (.Expr (.Call (.Attribute x "append" apos) [e] [] cpos) pos) (tDrop (tBM X.K "list" rAppend (tVar i) t)) := by exact fun _ hx ha => ps_expr (pe_bm PySem.F.plainAttrs_list PySem.F.slot_list_append PySem.F.type_list_append mt_append hx ha)) :
    PDS g E X (.Expr (.Call (.Attribute x "append" apos) [e] [] cpos) pos) (tDrop (tBM X.K "list" rAppend (tVar i) (tCons te tNil))) (appM i m) := ⟨h _ hx (pa_cons a.pe pa_nil hs), ds_append a.de⟩
/-- a slot's own list is a datum from now on -/
def frz (i : Nat) (Γ : Ga) : Ga := match Γ[i]? with
  | some (.own ds) => Γ.set i (.d (.lst ds))
  | _ => Γ
theorem Sta.frz {i : Nat} (s : Sta g K ba B0 H0 σ Γ bs B H) : ∃ B', Sta g K ba B0 H0 σ (frz i Γ) bs B' H ∧ Ex ba B B' := by
  unfold DL.frz
  cases q : Γ[i]? with
  | none => exact ⟨B, s, Ex.refl _⟩
  | some y =>
    cases y with
    | no => exact ⟨B, s, Ex.refl _⟩
    | d x => exact ⟨B, s, Ex.refl _⟩
    | own ds =>
      obtain ⟨p, vs, e1, na, n0, nb, h1, hd⟩ := s.slot i _ q
      have bb : Ex ba B (upd B p (.lst vs)) := ⟨fun b o _ hb _ => by rw [upd_ne (fun z => by rw [z, nb] at hb; cases hb)]; exact hb, fun b z => (upd_dom z).2⟩
      have off' : BagOff ba (upd B p (.lst vs)) := fun b hb => by
        rw [upd_ne (fun z => na (by rw [← z]; exact hb))]
        exact s.off b hb
      refine ⟨upd B p (.lst vs), ⟨by simpa using s.len, s.gd, s.tab, ⟨s.ent.bb.trans bb, s.ent.hh, ⟨fun b o nb' hb nt => ?_, fun b z => ?_⟩, fun b o hb nt z => ?_, s.ent.tb⟩, off', s.bag, fun j y hy => ?_, fun j k b ds' es' h1' h2' h3 h4 => ?_, s.cst.mono bb s.off⟩, bb⟩
      · by_cases c : b = p
        · rw [c, upd_same] at hb
          cases hb
          rw [c]
          exact h1
        · rw [upd_ne c] at hb
          exact s.ent.bh.keep b o nb' hb nt
      · rw [upd_ne (fun c => by rw [c, h1] at z; cases z)]
        exact s.ent.bh.dom b z
      · rw [upd_ne (fun c => by rw [c, n0] at hb; cases hb)]
        exact s.ent.nw b o hb nt z
      · rcases set_get hy with ⟨e, e2⟩ | ⟨e, h⟩
        · subst e
          subst e2
          exact ⟨.ref p, e1, den_lst' upd_same (Dens.mono bb s.off _ _ hd)⟩
        · have r := s.slot j y h
          cases y with
          | no => exact True.intro
          | d x =>
            obtain ⟨v, f1, f2⟩ := r
            exact ⟨v, f1, Den.mono bb s.off _ _ f2⟩
          | own ds' =>
            obtain ⟨b, us, f1, f2, f3, f4, f5, f6⟩ := r
            have nba : b ≠ p := fun z => e (s.inj i j p ds ds' q h (join_some e1) (by rw [← z]; exact join_some f1))
            exact ⟨b, us, f1, f2, f3, by rw [upd_ne nba]; exact f4, f5, Dens.mono bb s.off _ _ f6⟩
      · rcases set_get h1' with ⟨e, z⟩ | ⟨e1, h1'⟩
        · cases z
        rcases set_get h2' with ⟨e, z⟩ | ⟨e2, h2'⟩
        · cases z
        exact s.inj j k b _ _ h1' h2' h3 h4
theorem ds_frz {t : TS} {m : Ga → M Fl} (i : Nat) (h : DS g K E t m) : DS g K E t (fun Γ => m (frz i Γ)) := by
  intro ba B0 H0 σ Γ bs B H Dn s w
  obtain ⟨B', s', e'⟩ := s.frz (i := i)
  exact h ba B0 H0 σ _ bs B' H Dn s' (w.mono e')
theorem pds_frz {st : Stmt} {t : TS} {m : Ga → M Fl} (i : Nat) (h : PDS g E X st t m) : PDS g E X st t (fun Γ => m (frz i Γ)) := ⟨h.pe, ds_frz i h.de⟩
/-! ### the bag -/
/-- what is walked, on data -/
def IterOk (g : Gx) (K : PySem.W.Frag) (ba : Mu) (B' : Hp) (xs : List D) (J : It) : Prop := ∃ n G Y, Walk J n G Y ∧ n = xs.length ∧ (∀ B2 H2, Ex ba B' B2 → Ex ba B2 H2 → BagOff ba B2 → G H2) ∧
  ∀ i B2 H2 bs x H3, i < n → Ex ba B' B2 → Ex ba B2 H2 → BagOff ba B2 → BagIs ba bs H2 → Y i H2 x H3 → ∃ B3 d, xs[i]? = some d ∧ Step g ba B2 H2 B3 H3 ∧ BagIs ba bs H3 ∧ Den K ba B3 d x
structure PDI (g : Gx) (E : XK) (X : Cx) (tg iter : Expr) (wi : TI) (m : Ga → M (List D)) : Prop where
  pe : PI X tg iter wi
  de : ∀ ba B0 H0 σ Γ bs B H, Sta g X.K ba B0 H0 σ Γ bs B H → Ev g E (fun ba B' _ xs J => IterOk g X.K ba B' xs J) ba wi σ B H (m Γ bs)
def forK (rest : Ga → M Fl) : Fl → M Fl
  | .nx Γ => rest Γ
  | .ct Γ => rest Γ
  | .bk Γ => M.ret (.nx Γ)
  | .rt d => M.ret (.rt d)
def forL (st : D → Ga → Option Ga) (body : Ga → M Fl) : List D → Ga → M Fl
  | [], Γ => M.ret (.nx Γ)
  | x :: xs, Γ => M.bnd (opt (st x Γ)) fun Γ1 => M.bnd (body Γ1) (forK (forL st body xs))
def forM' (m : Ga → M (List D)) (st : D → Ga → Option Ga) (body : Ga → M Fl) : Ga → M Fl := fun Γ => M.bnd (m Γ) fun xs => forL st body xs Γ
/-- what the body is to reach, the rest of the loop behind it -/
theorem Wish.turn {m : Ga → M Fl} {rest : Ga → M Fl} {Pn : L2.St → Hp → Prop} {Γ1 : Ga} {b1 : MS} (w : Wish g K E ba B0 H0 B Dn (M.bnd (m Γ1) (forK rest) b1))
    (k : ∀ Γ' bs' σ' B' H', Sta g K ba B0 H0 σ' Γ' bs' B' H' → Ex ba B B' → Wish g K E ba B0 H0 B' Dn (rest Γ' bs') → Pn σ' H') : Wish g K E ba B0 H0 B { Dn with nx := Pn, ct := Pn, bk := Dn.nx } (m Γ1 b1) := by
  cases q : m Γ1 b1 with
  | none => exact absurd (bnd_none q) w.nn
  | some r =>
    obtain ⟨r, b2⟩ := r
    cases r with
    | ex c =>
      have w1 := w.cast (bnd_ex q)
      exact ⟨fun z => (nomatch z), fun _ _ z => (nomatch z), fun _ _ z => (nomatch z), fun _ _ z => (nomatch z), fun _ _ z => (nomatch z), fun c' bs' z => w1.ex c' bs' z⟩
    | ok f =>
      have w1 := w.cast (bnd_ok q)
      cases f with
      | nx Γ' => exact ⟨fun z => (nomatch z), fun Γ2 bs' z σ' B' H' s' e' => by cases z; exact k Γ' b2 σ' B' H' s' e' (w1.mono e'), fun _ _ z => (nomatch z), fun _ _ z => (nomatch z), fun _ _ z => (nomatch z), fun c' bs' z => (nomatch z)⟩
      | ct Γ' => exact ⟨fun z => (nomatch z), fun _ _ z => (nomatch z), fun _ _ z => (nomatch z), fun Γ2 bs' z σ' B' H' s' e' => by cases z; exact k Γ' b2 σ' B' H' s' e' (w1.mono e'), fun _ _ z => (nomatch z), fun c' bs' z => (nomatch z)⟩
      | bk Γ' => exact ⟨fun z => (nomatch z), fun _ _ z => (nomatch z), fun Γ2 bs' z σ' B' H' s' e' => by cases z; exact w1.nx Γ' b2 rfl σ' B' H' s' e', fun _ _ z => (nomatch z), fun _ _ z => (nomatch z), fun c' bs' z => (nomatch z)⟩
      | rt d => exact ⟨fun z => (nomatch z), fun _ _ z => (nomatch z), fun _ _ z => (nomatch z), fun _ _ z => (nomatch z), fun x bs' z => by cases z; exact w1.rt d b2 rfl, fun c' bs' z => (nomatch z)⟩
theorem ds_for {wi : TI} {tg : TG} {tb : TS} {mi : Ga → M (List D)} {st : D → Ga → Option Ga} {mb : Ga → M Fl} (hi : ∀ ba B0 H0 σ Γ bs B H, Sta g K ba B0 H0 σ Γ bs B H → Ev g E (fun ba B' _ xs J => IterOk g K ba B' xs J) ba wi σ B H (mi Γ bs)) (ht : DT g K tg st) (hb : DS g K E tb mb) :
    DS g K E (tFor wi tg tb) (forM' mi st mb) := by
  intro ba B0 H0 σ Γ bs B H Dn s w
  refine (hi ba B0 H0 σ Γ bs B H s).stm (f := fun xs => forL st mb xs Γ) s w fun xs b1 J B1 H1 s1 t1 d1 w1 => ?_
  obtain ⟨n, G, Y, W, hn, hG, hY⟩ := d1
  refine for_it W (fun i σ' H' => ∃ Γi bi Bi, Sta g K ba B0 H0 σ' Γi bi Bi H' ∧ Ex ba B1 Bi ∧ Wish g K E ba B0 H0 Bi Dn (forL st mb (xs.drop i) Γi bi)) ⟨Γ, b1, B1, s1, Ex.refl _, w1⟩ (fun i σ' H' _ ⟨Γi, bi, Bi, si, ei, _⟩ => hG Bi H' ei si.sub si.off) ?_ ?_
  · rintro i x σ' H2 H3 hin ⟨Γi, bi, Bi, si, ei, wi'⟩ hy
    obtain ⟨B3, d, hd, t3, i3, den⟩ := hY i Bi H2 bi x H3 hin ei si.sub si.off si.bag hy
    have s3 := si.step t3 i3
    obtain ⟨hlt, hget⟩ := List.getElem?_eq_some_iff.mp hd
    have ed : xs.drop i = d :: xs.drop (i + 1) := by rw [List.drop_eq_getElem_cons hlt, hget]
    rw [ed] at wi'
    have w3 : Wish g K E ba B0 H0 Bi Dn (M.bnd (opt (st d Γi)) (fun Γ1 => M.bnd (mb Γ1) (forK (forL st mb (xs.drop (i + 1))))) bi) := wi'
    cases q : st d Γi with
    | none => rw [q] at w3; exact absurd rfl w3.nn
    | some Γ1 =>
      rw [q] at w3
      have w4 : Wish g K E ba B0 H0 B3 Dn (M.bnd (mb Γ1) (forK (forL st mb (xs.drop (i + 1)))) bi) := w3.mono t3.bb
      refine ht ba B0 H0 σ' Γi bi B3 H3 d x Γ1 _ s3 den q fun σ2 s2 => ?_
      refine hb ba B0 H0 σ2 Γ1 bi B3 H3 _ s2 (w4.turn fun Γ' bs' σ3 B4 H4 s4 e4 w5 => ⟨Γ', bs', B4, s4, ei.trans (t3.bb.trans e4), w5⟩)
  · rintro σ' H' ⟨Γi, bi, Bi, si, ei, wi'⟩
    rw [hn, List.drop_length] at wi'
    exact wi'.nx Γi bi rfl σ' Bi H' si (Ex.refl _)
theorem pds_for {tg iter : Expr} {body : List Stmt} {wi : TI} {t : TG} {tb : TS} {mi : Ga → M (List D)} {st : D → Ga → Option Ga} {mb : Ga → M Fl} {pos : Pos} (hp : PassesOwn (model X.prog X.w) X.A X.env X.xe) (hc : X.calm = true)
    (hi : PDI g E X tg iter wi mi) (ht : PDG g X tg t st) (hb : PDSs g E X body tb mb) (hs : ∀ x, foldedSetIterable iter X.env x = pure x := by intro _; rfl) :
    PDS g E X (.For tg iter body [] pos) (tFor wi t tb) (forM' mi st mb) := ⟨ps_for hp hc hi.pe ht.pe hb.pe hs, ds_for hi.de ht.de hb.de⟩
/-! ### while -/
/-- at most so many turns -/
def whileM (c : Ga → M Bool) (body : Ga → M Fl) : Nat → Ga → M Fl
  | 0, _ => stuck
  | n + 1, Γ => M.bnd (c Γ) fun k => if k = true then M.bnd (body Γ) (forK (whileM c body n)) else M.ret (.nx Γ)
theorem ds_while {tc : TT} {tb : TS} {mc : Ga → M Bool} {mb : Ga → M Fl} (n : Nat) (hc : DG g K E RE tc mc) (hb : DS g K E tb mb) : DS g K E (tWhile tc tb) (whileM mc mb n) := by
  intro ba B0 H0 σ Γ bs B H Dn s w
  refine ⟨fun m σ' H' => ∃ Γi bi Bi, Sta g K ba B0 H0 σ' Γi bi Bi H' ∧ Wish g K E ba B0 H0 Bi Dn (whileM mc mb m Γi bi), ⟨n, Γ, bs, B, s, w⟩, ?_⟩
  rintro m σ' H' ⟨Γi, bi, Bi, si, wi⟩
  cases m with
  | zero => exact absurd rfl wi.nn
  | succ m =>
    refine (hc ba B0 H0 σ' Γi bi Bi H' si).stm (f := fun k => if k = true then M.bnd (mb Γi) (forK (whileM mc mb m)) else M.ret (.nx Γi)) si wi fun k b1 v B1 H1 s1 t1 d1 w1 => ?_
    have d1 : v = k := d1
    subst d1
    cases v with
    | true =>
      have w1 : Wish g K E ba B0 H0 B1 Dn (M.bnd (mb Γi) (forK (whileM mc mb m)) b1) := w1
      rw [if_pos rfl]
      refine ⟨fun σ2 H2 => ∃ Γi bi Bi, Sta g K ba B0 H0 σ2 Γi bi Bi H2 ∧ Wish g K E ba B0 H0 Bi Dn (whileM mc mb m Γi bi), fun σ2 H2 h2 => ⟨m, Nat.lt_succ_self m, h2⟩, ?_⟩
      exact hb ba B0 H0 σ' Γi b1 B1 H1 _ s1 (w1.turn fun Γ' bs' σ3 B4 H4 s4 e4 w5 => ⟨Γ', bs', B4, s4, w5⟩)
    | false =>
      have w1 : Wish g K E ba B0 H0 B1 Dn (M.ret (.nx Γi) b1) := w1
      rw [if_neg Bool.false_ne_true]
      exact w1.nx Γi b1 rfl σ' B1 H1 s1 (Ex.refl _)
theorem pds_while {c : Expr} {body : List Stmt} {tc : TT} {tb : TS} {mc : Ga → M Bool} {mb : Ga → M Fl} {pos : Pos} (n : Nat) (hp : PassesOwn (model X.prog X.w) X.A X.env X.xe) (hc : PDT g E X c tc mc) (hb : PDSs g E X body tb mb) :
    PDS g E X (.While c body [] pos) (tWhile tc tb) (whileM mc mb n) := ⟨ps_while hp hc.pe hb.pe, ds_while n hc.de hb.de⟩
end
end DL

set_option Elab.async false
set_option linter.all false
set_option maxRecDepth 100000
set_option maxHeartbeats 400000
/-! Walks, comprehensions, defs. -/
namespace DL
open PySem PySem.Spec PyProof.Rows L2
section
variable {g : Gx} {E : XK} {X : Cx} {K : PySem.W.Frag} {ba : Mu}
/-! ### what is walked -/
theorem iter_list {B' : Hp} {a : Addr} {vs : List V} {ds : List D} (f : BagOff ba B') (ha : B' a = some (.lst vs)) (hd : Dens K ba B' ds vs) : IterOk g K ba B' ds (Itl K a) := by
  refine ⟨vs.length, _, _, walk_list, hd.length, fun B2 H2 e1 e2 f2 => ?_, fun i B2 H2 bs x H3 hi e1 e2 f2 bi y => ?_⟩
  · exact SqL.of (lst_ex e2 f2 (lst_ex e1 f ha))
  · obtain ⟨rfl, hx⟩ := y
    have hi' : i < ds.length := by rw [← hd.length]; exact hi
    obtain ⟨v, h1, h2⟩ := hd.get (i := i) (List.getElem?_eq_getElem hi')
    rw [hx] at h1
    cases h1
    exact ⟨B2, ds[i], List.getElem?_eq_getElem hi', Step.refl e2, bi, Den.mono e1 f _ _ h2⟩
theorem iter_tup {B' : Hp} {a : Addr} {vs : List V} {ds : List D} (f : BagOff ba B') (ha : SqT K B' a vs) (hd : Dens K ba B' ds vs) : IterOk g K ba B' ds (Itt K a) := by
  refine ⟨vs.length, _, _, walk_tup, hd.length, fun B2 H2 e1 e2 f2 => ?_, fun i B2 H2 bs x H3 hi e1 e2 f2 bi y => ?_⟩
  · exact sqT_ex e2 f2 (sqT_ex e1 f ha)
  · obtain ⟨rfl, hx⟩ := y
    have hi' : i < ds.length := by rw [← hd.length]; exact hi
    obtain ⟨v, h1, h2⟩ := hd.get (i := i) (List.getElem?_eq_getElem hi')
    rw [hx] at h1
    cases h1
    exact ⟨B2, ds[i], List.getElem?_eq_getElem hi', Step.refl e2, bi, Den.mono e1 f _ _ h2⟩
def rngL (lo : Int) (n : Nat) : List D := (List.range n).map fun i => D.int (lo + (i : Nat))
theorem iter_range {B' : Hp} {lo : Int} {n : Nat} : IterOk g K ba B' (rngL lo n) (Itr lo n) := by
  refine ⟨n, _, _, walk_range, by simp [rngL], fun _ _ _ _ _ => True.intro, fun i B2 H2 bs x H3 hi e1 e2 f2 bi y => ?_⟩
  obtain ⟨rfl, rfl⟩ := y
  exact ⟨B2, .int (lo + (i : Nat)), by simp [rngL, hi], Step.refl e2, bi, den_int'⟩
def sgnL (z : Str) : List D := z.cps.toList.map fun c => D.str ⟨#[c]⟩
theorem iter_str {B' : Hp} {z : Str} : IterOk g K ba B' (sgnL z) (Its z) := by
  refine ⟨z.cps.size, _, _, walk_str, by simp [sgnL], fun _ _ _ _ _ => True.intro, fun i B2 H2 bs x H3 hi e1 e2 f2 bi y => ?_⟩
  obtain ⟨rfl, c, hc, rfl⟩ := y
  refine ⟨B2, .str ⟨#[c]⟩, ?_, Step.refl e2, bi, den_str'⟩
  unfold sgnL
  rw [List.getElem?_map, Array.getElem?_toList, hc]
  rfl
/-- a list, a tuple or a text, walked -/
def itemsK : D → M (List D)
  | .lst ds => M.ret ds
  | .tup ds => M.ret ds
  | .str z => M.ret (sgnL z)
  | _ => stuck
def iAny (K : PySem.W.Frag) (te : TE) : TI := fun σ H R => iList K te σ H R ∨ iTup K te σ H R ∨ iStr te σ H R
theorem PI.or {tg it : Expr} {w1 w2 : TI} (h1 : PI X tg it w1) (h2 : PI X tg it w2) : PI X tg it (fun σ H R => w1 σ H R ∨ w2 σ H R) :=
  ⟨fun pins s σ H R I h => h.elim (h1.run pins s σ H R I) (h2.run pins s σ H R I)⟩
theorem pi_any {tg e : Expr} {te : TE} {m : Ga → M D} (a : PD g E X e te m) : PDI g E X tg e (iAny X.K te) (fun Γ => M.bnd (m Γ) itemsK) := by
  refine ⟨PI.or (pi_list a.pe) (PI.or (pi_tup a.pe) (pi_str a.pe)), fun ba B0 H0 σ Γ bs B H s R hn h1 h2 => ?_⟩
  have ev := a.de ba B0 H0 σ Γ bs B H s
  cases q : m Γ bs with
  | none => exact absurd (bnd_none q) hn
  | some r =>
    obtain ⟨r, b0⟩ := r
    cases r with
    | ex c =>
      refine .inl (ev _ (by rw [q]; exact fun z => nomatch z) (fun x bs' e => by rw [q] at e; exact nomatch e) fun c' bs' e B' H' t bi => ?_)
      rw [q] at e
      cases e
      exact h2 c _ (bnd_ex q) B' H' t bi
    | ok x =>
      have e' := bnd_ok (f := itemsK) q
      cases x with
      | lst ds =>
        refine .inl (ev.bnd (f := itemsK) hn h2 fun x b1 e1 e1' n1 v B1 H1 t1 i1 d1 x1 => ?_)
        rw [q] at e1
        cases e1
        obtain ⟨a, vs, rfl, ha, hd⟩ := den_lst d1
        have off1 := t1.off s.bag s.off
        exact ⟨a, rfl, ⟨vs, SqL.of (lst_ex t1.bh off1 ha)⟩, h1 ds _ e1' (Itl X.K a) B1 H1 t1 i1 (iter_list off1 ha hd)⟩
      | tup ds =>
        refine .inr (.inl (ev.bnd (f := itemsK) hn h2 fun x b1 e1 e1' n1 v B1 H1 t1 i1 d1 x1 => ?_))
        rw [q] at e1
        cases e1
        obtain ⟨a, vs, rfl, ha, hd⟩ := den_tup d1
        have off1 := t1.off s.bag s.off
        exact ⟨a, rfl, ⟨vs, sqT_ex t1.bh off1 ha⟩, h1 ds _ e1' (Itt X.K a) B1 H1 t1 i1 (iter_tup off1 ha hd)⟩
      | str z =>
        refine .inr (.inr (ev.bnd (f := itemsK) hn h2 fun x b1 e1 e1' n1 v B1 H1 t1 i1 d1 x1 => ?_))
        rw [q] at e1
        cases e1
        exact ⟨z, den_str d1, h1 (sgnL z) _ e1' (Its z) B1 H1 t1 i1 iter_str⟩
      | _ => exact absurd e' hn
def rng1K : List D → M (List D)
  | [.int j] => if j < 100000 ∧ -100000 < j then M.ret (rngL 0 j.toNat) else stuck
  | _ => stuck
def rng2K : List D → M (List D)
  | [.int i, .int j] => if (j < 100000 ∧ -100000 < j) ∧ i < 100000 ∧ -100000 < i then M.ret (rngL i (j - i).toNat) else stuck
  | _ => stuck
theorem rng1_inv {x : List D} {bs : MS} (h : rng1K x bs ≠ none) : ∃ j : Int, x = [.int j] ∧ (j < 100000 ∧ -100000 < j) ∧ rng1K x bs = some (.ok (rngL 0 j.toNat), bs) := by
  unfold rng1K at h ⊢
  split at h
  · rename_i j
    by_cases c : j < 100000 ∧ -100000 < j
    · rw [if_pos c]
      exact ⟨j, rfl, c, rfl⟩
    · rw [if_neg c] at h
      exact absurd rfl h
  · exact absurd rfl h
theorem rng2_inv {x : List D} {bs : MS} (h : rng2K x bs ≠ none) : ∃ i j : Int, x = [.int i, .int j] ∧ ((j < 100000 ∧ -100000 < j) ∧ i < 100000 ∧ -100000 < i) ∧ rng2K x bs = some (.ok (rngL i (j - i).toNat), bs) := by
  unfold rng2K at h ⊢
  split at h
  · rename_i i j
    by_cases c : (j < 100000 ∧ -100000 < j) ∧ i < 100000 ∧ -100000 < i
    · rw [if_pos c]
      exact ⟨i, j, rfl, c, rfl⟩
    · rw [if_neg c] at h
      exact absurd rfl h
  · exact absurd rfl h
theorem pi_r1 {tg a : Expr} {ta : TA} {m : Ga → M (List D)} {p pos : Pos} (hm : X.mg "range" = none) (h : PDA g E X [a] ta m) (hg : Gl X "range" := by rfl) (hs : starEach [a] X.env = [(false, eval a X.env)] := by rfl) :
    PDI g E X tg (.Call (.Name "range" p) [a] [] pos) (iRng1 ta) (fun Γ => M.bnd (m Γ) rng1K) := by
  refine ⟨pi_range1 hg hm h.pe hs, fun ba B0 H0 σ Γ bs B H s R hn h1 h2 => ?_⟩
  refine (h.de ba B0 H0 σ Γ bs B H s).bnd (f := rng1K) hn h2 fun x b1 e1 e1' n1 v B1 H1 t1 i1 d1 x1 => ?_
  obtain ⟨j, rfl, c, e2⟩ := rng1_inv n1
  obtain ⟨w, r, rfl, hw, hr⟩ := dens_cons_inv d1
  rw [dens_nil_inv hr, den_int hw]
  exact ⟨j, rfl, by omega, by omega, h1 _ b1 (e1'.trans e2) (Itr 0 j.toNat) B1 H1 t1 i1 iter_range⟩
theorem pi_r2 {tg a b : Expr} {ta : TA} {m : Ga → M (List D)} {p pos : Pos} (hm : X.mg "range" = none) (h : PDA g E X [a, b] ta m) (hg : Gl X "range" := by rfl) (hs : starEach [a, b] X.env = [(false, eval a X.env), (false, eval b X.env)] := by rfl) (hs2 : starEach [b] X.env = [(false, eval b X.env)] := by rfl) :
    PDI g E X tg (.Call (.Name "range" p) [a, b] [] pos) (iRng2 ta) (fun Γ => M.bnd (m Γ) rng2K) := by
  refine ⟨pi_range2 hg hm h.pe hs hs2, fun ba B0 H0 σ Γ bs B H s R hn h1 h2 => ?_⟩
  refine (h.de ba B0 H0 σ Γ bs B H s).bnd (f := rng2K) hn h2 fun x b1 e1 e1' n1 v B1 H1 t1 i1 d1 x1 => ?_
  obtain ⟨i, j, rfl, c, e2⟩ := rng2_inv n1
  obtain ⟨w, r, rfl, hw, hr⟩ := dens_cons_inv d1
  obtain ⟨w2, r2, rfl, hw2, hr2⟩ := dens_cons_inv hr
  rw [dens_nil_inv hr2, den_int hw, den_int hw2]
  exact ⟨i, j, rfl, by omega, h1 _ b1 (e1'.trans e2) (Itr i (j - i).toNat) B1 H1 t1 i1 iter_range⟩
/-! ### comprehensions -/
def wipeG (Γ : Ga) : List Nat → Ga
  | [] => Γ
  | v :: vs => (wipeG Γ vs).set v .no
variable {B0 H0 B H : Hp} {σ : L2.St} {Γ : Ga} {bs : MS}
theorem Sta.forget {v : Nat} (s : Sta g K ba B0 H0 σ Γ bs B H) : Sta g K ba B0 H0 (σ.set v none) (Γ.set v .no) bs B H := by
  refine ⟨by simpa using s.len, s.gd, s.tab, s.ent, s.off, s.bag, fun j y hy => ?_, fun j k a ds es h1 h2 h3 h4 => ?_, s.cst⟩
  · rcases set_get hy with ⟨e, e2⟩ | ⟨e, h⟩
    · rw [e2]
      exact True.intro
    · rw [List.getElem?_set_ne e]
      exact s.slot j y h
  · rcases set_get h1 with ⟨e, z⟩ | ⟨e1, h1⟩
    · cases z
    rcases set_get h2 with ⟨e, z⟩ | ⟨e2, h2⟩
    · cases z
    rw [List.getElem?_set_ne e1] at h3
    rw [List.getElem?_set_ne e2] at h4
    exact s.inj j k a ds es h1 h2 h3 h4
theorem Sta.wipe (s : Sta g K ba B0 H0 σ Γ bs B H) : ∀ vs : List Nat, Sta g K ba B0 H0 (L2.wipe σ vs) (wipeG Γ vs) bs B H
  | [] => s
  | v :: vs => (Sta.wipe s vs).forget
theorem wipe_set : ∀ {vs : List Nat} {i : Nat} {o : Option V} {σ : L2.St}, i ∈ vs → L2.wipe (σ.set i o) vs = L2.wipe σ vs
  | [], i, o, σ, h => by simp at h
  | v :: vs, i, o, σ, h => by
    unfold L2.wipe
    by_cases hv : i ∈ vs
    · rw [wipe_set hv]
    · have e : i = v := by
        rcases List.mem_cons.mp h with e | e
        · exact e
        · exact absurd e hv
      subst e
      have : ∀ (us : List Nat) (τ : L2.St), i ∉ us → L2.wipe (τ.set i o) us = (L2.wipe τ us).set i o := by
        intro us
        induction us with
        | nil => intro τ _; rfl
        | cons u us ih =>
          intro τ hu
          rw [List.mem_cons, not_or] at hu
          unfold L2.wipe
          rw [ih τ hu.2, List.set_comm _ _ hu.1]
      rw [this vs σ hv, List.set_set]
theorem wipe_wipe {σ : L2.St} : ∀ {vs us : List Nat}, (∀ u ∈ us, u ∈ vs) → L2.wipe (L2.wipe σ us) vs = L2.wipe σ vs
  | vs, [], _ => rfl
  | vs, u :: us, h => by
    show L2.wipe ((L2.wipe σ us).set u none) vs = _
    rw [wipe_set (h u List.mem_cons_self), wipe_wipe (fun x hx => h x (List.mem_cons_of_mem _ hx))]
/-- the target stores in the comprehension's own names alone -/
def Own (vs : List Nat) (tg : TG) : Prop := ∀ v σ H Q, tg v σ H Q → tg v σ H fun σ2 H2 => L2.wipe σ2 vs = L2.wipe σ vs ∧ Q σ2 H2
def Owns (vs : List Nat) (tg : TGs) : Prop := ∀ v σ H Q, tg v σ H Q → tg v σ H fun σ2 H2 => L2.wipe σ2 vs = L2.wipe σ vs ∧ Q σ2 H2
theorem own_n {vs : List Nat} {i : Nat} (h : i ∈ vs) : Own vs (gName i) := fun v σ H Q q => ⟨wipe_set h, q⟩
theorem owns_nil {vs : List Nat} : Owns vs gNil := fun v σ H Q q => ⟨q.1, rfl, q.2⟩
theorem gName_mono {i : Nat} {v : V} {σ : L2.St} {H : Hp} {Q Q' : L2.St → Hp → Prop} (h : ∀ σ H, Q σ H → Q' σ H) (q : gName i v σ H Q) : gName i v σ H Q' := h _ _ q
def MonoG (tg : TG) : Prop := ∀ v σ H (Q Q' : L2.St → Hp → Prop), (∀ σ H, Q σ H → Q' σ H) → tg v σ H Q → tg v σ H Q'
def MonoGs (tg : TGs) : Prop := ∀ v σ H (Q Q' : L2.St → Hp → Prop), (∀ σ H, Q σ H → Q' σ H) → tg v σ H Q → tg v σ H Q'
theorem mono_n {i : Nat} : MonoG (gName i) := fun _ _ _ _ _ h q => h _ _ q
theorem mono_nil : MonoGs gNil := fun _ _ _ _ _ h q => ⟨q.1, h _ _ q.2⟩
theorem mono_cons {t : TG} {u : TGs} (a : MonoG t) (b : MonoGs u) : MonoGs (gCons t u) := fun _ _ _ _ _ h ⟨v, r, e, q⟩ => ⟨v, r, e, a _ _ _ _ _ (fun _ _ q2 => b _ _ _ _ _ h q2) q⟩
theorem owns_cons {vs : List Nat} {t : TG} {u : TGs} (a : Own vs t) (ma : MonoG t) (b : Owns vs u) (mb : MonoGs u) : Owns vs (gCons t u) := fun _ σ H Q ⟨v, r, e, q⟩ =>
  ⟨v, r, e, ma _ _ _ _ _ (fun σ2 H2 ⟨e1, q2⟩ => mb _ _ _ _ _ (fun σ3 H3 ⟨e2, q3⟩ => ⟨e2.trans e1, q3⟩) (b _ _ _ _ q2)) (a _ _ _ _ q)⟩
theorem own_t {vs : List Nat} {n : Nat} {t : TGs} (a : Owns vs t) : Own vs (gTup K n t) := fun v σ H Q ⟨p, xs, e, h, l, q⟩ => ⟨p, xs, e, h, l, a _ _ _ _ q⟩
/-- raising is not looked at within a comprehension -/
def calm {α : Type} (m : M α) : M α := fun b => match m b with
  | some (.ok a, b') => some (.ok a, b')
  | _ => none
theorem calm_inv {α : Type} {m : M α} {b : MS} (h : calm m b ≠ none) : ∃ a b', m b = some (.ok a, b') ∧ calm m b = some (.ok a, b') := by
  unfold calm at h ⊢
  cases q : m b with
  | none => rw [q] at h; exact absurd rfl h
  | some r =>
    obtain ⟨r, b'⟩ := r
    cases r with
    | ok a => exact ⟨a, b', rfl, rfl⟩
    | ex c => rw [q] at h; exact absurd rfl h
def compL (st : D → Ga → Option Ga) (mt : Ga → M Bool) (me : Ga → M D) (Γ : Ga) : List D → M (List D)
  | [] => M.ret []
  | x :: xs => M.bnd (opt (st x Γ)) fun Γ1 => M.bnd (calm (mt Γ1)) fun k => if k = true then M.bnd (calm (me Γ1)) fun y => M.bnd (compL st mt me Γ xs) fun ys => M.ret (y :: ys) else compL st mt me Γ xs
def compM (vs : List Nat) (mi : Ga → M (List D)) (st : D → Ga → Option Ga) (mt : Ga → M Bool) (me : Ga → M D) : Ga → M (List D) := fun Γ =>
  M.bnd (mi Γ) fun xs => M.bnd (lenK xs) fun xs => compL st mt me (wipeG Γ vs) xs
def addL (ds : List D) (m : M (List D)) : M (List D) := M.bnd m fun ys => M.ret (ds ++ ys)
theorem addL_nil (m : M (List D)) : addL [] m = m := by
  funext b
  unfold addL M.bnd
  cases m b with
  | none => rfl
  | some r =>
    obtain ⟨r, b'⟩ := r
    cases r <;> rfl
theorem addL_bnd {α : Type} (ds : List D) (m : M α) (f : α → M (List D)) : addL ds (M.bnd m f) = M.bnd m fun x => addL ds (f x) := by
  funext b
  unfold addL M.bnd
  cases m b with
  | none => rfl
  | some r =>
    obtain ⟨r, b'⟩ := r
    cases r <;> rfl
theorem addL_cons (ds : List D) (y : D) (m : M (List D)) : addL ds (M.bnd m fun ys => M.ret (y :: ys)) = addL (ds ++ [y]) m := by
  funext b
  unfold addL M.bnd
  cases m b with
  | none => rfl
  | some r =>
    obtain ⟨r, b'⟩ := r
    cases r with
    | ok a =>
      show some (Res.ok (ds ++ y :: a), b') = some (Res.ok (ds ++ [y] ++ a), b')
      rw [List.append_assoc]
      rfl
    | ex c => rfl
/-- a new object p changes -/
theorem Step.mut {B1 H1 Bi Hi : Hp} {p : Addr} {vs ws : List V} (t : Step g ba B1 H1 Bi Hi) (n1 : H1 p = none) (nb : Bi p = none) (h : Hi p = some (.lst vs)) : Step g ba B1 H1 Bi (upd Hi p (.lst ws)) := by
  refine ⟨t.bb, ⟨fun b o nb' hb nt => ?_, fun b z => t.hh.dom b (upd_dom z).2⟩, ⟨fun b o nb' hb nt => ?_, fun b z => t.bh.dom b (upd_dom z).2⟩, t.nw, fun x => tabs_upd h (t.tb x)⟩
  · rw [upd_ne (fun z => by rw [z, n1] at hb; cases hb)]
    exact t.hh.keep b o nb' hb nt
  · rw [upd_ne (fun z => by rw [z, nb] at hb; cases hb)]
    exact t.bh.keep b o nb' hb nt
theorem Step.keepNone {B1 H1 Bi Hi : Hp} {p : Addr} {vs : List V} (t : Step g ba B1 H1 Bi Hi) (h : H1 p = some (.lst vs)) (n : B1 p = none) : Bi p = none := t.nw p _ h (fun _ z => by cases z) n
theorem dn_lc {wi : TI} {tg : TG} {tt : TT} {te : TE} {vs : List Nat} {mi : Ga → M (List D)} {st : D → Ga → Option Ga} {mt : Ga → M Bool} {me : Ga → M D}
    (hi : ∀ ba B0 H0 σ Γ bs B H, Sta g K ba B0 H0 σ Γ bs B H → Ev g E (fun ba B' _ xs J => IterOk g K ba B' xs J) ba wi σ B H (mi Γ bs)) (ht : DT g K tg st) (ho : Own vs tg) (hm : MonoG tg) (hc : DG g K E0 RE tt mt) (he : DG g K E0 (RD K) te me) :
    ∀ ba B0 H0 σ Γ bs B H, Sta g K ba B0 H0 σ Γ bs B H → Ev g E (fun ba B' H' ds v => RN K ba B' H' ds v ∧ ∀ a, v = .ref a → H a = none) ba (tLc wi tg tt te vs) σ B H (compM vs mi st mt me Γ bs) := by
  intro ba B0 H0 σ Γ bs B H s Q hn h1 h2
  refine (hi ba B0 H0 σ Γ bs B H s).bnd (f := fun xs => M.bnd (lenK xs) fun xs => compL st mt me (wipeG Γ vs) xs) hn h2 fun xs b1 e1 e1' n1 J B1 H1 t1 i1 d1 x1 => ?_
  have s1 := (s.step t1 i1).wipe vs
  obtain ⟨n, G, Y, W, hlen, hG, hY⟩ := d1
  -- the length
  have hl : lenK xs b1 ≠ none := fun z => n1 (bnd_none z)
  obtain ⟨hl1, hl2⟩ := lenK_inv hl
  have e2 : M.bnd (lenK xs) (fun xs => compL st mt me (wipeG Γ vs) xs) b1 = compL st mt me (wipeG Γ vs) xs b1 := bnd_ok hl2
  rw [e2] at n1 x1
  have tot : compM vs mi st mt me Γ bs = compL st mt me (wipeG Γ vs) xs b1 := e1'.trans e2
  intro p hp
  have nbp : ¬ ba.has p := i1.nb hp
  refine lc_it W (fun i H' => ∃ bi Bi acc ds, Step g ba B1 H1 Bi H' ∧ BagIs ba bi H' ∧ H' p = some (.lst acc) ∧ Bi p = none ∧ Dens K ba Bi ds acc ∧ ds.length ≤ i ∧ addL ds (compL st mt me (wipeG Γ vs) (xs.drop i)) bi = compL st mt me (wipeG Γ vs) xs b1)
    ⟨b1, B1, [], [], Step.newH s1.sub hp, i1.new hp, upd_same, s1.sub.dom p hp, dens_nil, Nat.le_refl _, by rw [addL_nil]; rfl⟩ (fun i H' _ ⟨bi, Bi, acc, ds, ti, ii, _⟩ => hG Bi H' ti.bb ti.bh (ti.off i1 s1.off)) ?_ ?_
  · rintro i x H2 H3 hin ⟨bi, Bi, acc, ds, ti, ii, hpi, nbi, hd, hdl, eq⟩ hy
    have si := s1.step ti ii
    obtain ⟨B3, d, hdx, t3, i3, den⟩ := hY i Bi H2 bi x H3 hin ti.bb ti.bh si.off ii hy
    have s3 := si.step t3 i3
    have T3 := ti.trans ii t3
    have hp3 : H3 p = some (.lst acc) := t3.hh.keep p _ nbp hpi (fun _ z => by cases z)
    have nb3 : B3 p = none := t3.keepNone hpi nbi
    obtain ⟨hlt, hget⟩ := List.getElem?_eq_some_iff.mp hdx
    have ed : xs.drop i = d :: xs.drop (i + 1) := by rw [List.drop_eq_getElem_cons hlt, hget]
    rw [ed] at eq
    have eq1 : addL ds (M.bnd (opt (st d (wipeG Γ vs))) fun Γ1 => M.bnd (calm (mt Γ1)) fun k => if k = true then M.bnd (calm (me Γ1)) fun y => M.bnd (compL st mt me (wipeG Γ vs) (xs.drop (i + 1))) fun ys => M.ret (y :: ys) else compL st mt me (wipeG Γ vs) (xs.drop (i + 1))) bi = compL st mt me (wipeG Γ vs) xs b1 := eq
    rw [addL_bnd] at eq1
    cases q : st d (wipeG Γ vs) with
    | none =>
      rw [q] at eq1
      exact absurd eq1.symm n1
    | some Γ1 =>
      rw [q] at eq1
      have eq2 : addL ds (M.bnd (calm (mt Γ1)) fun k => if k = true then M.bnd (calm (me Γ1)) fun y => M.bnd (compL st mt me (wipeG Γ vs) (xs.drop (i + 1))) fun ys => M.ret (y :: ys) else compL st mt me (wipeG Γ vs) (xs.drop (i + 1))) bi = compL st mt me (wipeG Γ vs) xs b1 := eq1
      rw [addL_bnd] at eq2
      have target := ht ba B0 H0 (L2.wipe σ vs) (wipeG Γ vs) bi B3 H3 d x Γ1 (fun σ2 H2' => H2' = H3 ∧ Sta g K ba B0 H0 σ2 Γ1 bi B3 H3) s3 den q fun σ2 s2 => ⟨rfl, s2⟩
      have target2 := ho _ _ _ _ target
      refine hm _ _ _ _ _ (fun σ2 H2' ⟨ew, eH, s2⟩ => ?_) target2
      subst eH
      refine ⟨ew.trans (wipe_wipe fun _ h => h), ?_⟩
      have hk : calm (mt Γ1) bi ≠ none := fun z => n1 (by rw [← eq2]; exact bnd_none z)
      obtain ⟨k, b2, ek, ek2⟩ := calm_inv hk
      rw [bnd_ok ek2] at eq2
      refine hc ba B0 H0 σ2 Γ1 bi B3 H2' s2 _ (by rw [ek]; exact fun z => nomatch z) (fun k' b' e kv B4 H4 t4 i4 d4 => ?_) (fun c b' e => by rw [ek] at e; exact nomatch e)
      rw [ek] at e
      cases e
      have d4 : kv = k := d4
      subst d4
      have s4 := s2.step t4 i4
      have T4 := T3.trans i3 t4
      have hp4 : H4 p = some (.lst acc) := t4.hh.keep p _ nbp hp3 (fun _ z => by cases z)
      have nb4 : B4 p = none := t4.keepNone hp3 nb3
      have hd4 : Dens K ba B4 ds acc := Dens.mono (t3.bb.trans t4.bb) si.off _ _ hd
      cases kv with
      | false =>
        rw [if_neg Bool.false_ne_true]
        exact ⟨b2, B4, acc, ds, T4, i4, hp4, nb4, hd4, Nat.le_succ_of_le hdl, eq2⟩
      | true =>
        rw [if_pos rfl]
        have eq3 : addL ds (M.bnd (calm (me Γ1)) fun y => M.bnd (compL st mt me (wipeG Γ vs) (xs.drop (i + 1))) fun ys => M.ret (y :: ys)) b2 = compL st mt me (wipeG Γ vs) xs b1 := eq2
        rw [addL_bnd] at eq3
        have hy2 : calm (me Γ1) b2 ≠ none := fun z => n1 (by rw [← eq3]; exact bnd_none z)
        obtain ⟨y, b3, ey, ey2⟩ := calm_inv hy2
        rw [bnd_ok ey2, addL_cons] at eq3
        refine he ba B0 H0 σ2 Γ1 b2 B4 H4 s4 _ (by rw [ey]; exact fun z => nomatch z) (fun y' b' e yv B5 H5 t5 i5 d5 => ?_) (fun c b' e => by rw [ey] at e; exact nomatch e)
        rw [ey] at e
        cases e
        have hp5 : H5 p = some (.lst acc) := t5.hh.keep p _ nbp hp4 (fun _ z => by cases z)
        have nb5 : B5 p = none := t5.keepNone hp4 nb4
        have hd5 : Dens K ba B5 ds acc := Dens.mono t5.bb s4.off _ _ hd4
        refine ⟨acc, hp5, ?_, b3, B5, acc ++ [yv], ds ++ [y], (T4.trans i4 t5).mut hp nb5 hp5, i5.updl hp5 nbp, upd_same, nb5, Dens.append hd5 (dens_cons d5 dens_nil), ?_, eq3⟩
        · rw [hd5.length]
          exact Nat.lt_of_le_of_lt (Nat.le_trans hdl (Nat.le_trans (Nat.le_of_lt hlt) hl1)) (by decide)
        · rw [List.length_append]
          exact Nat.succ_le_succ hdl
  · rintro H' ⟨bi, Bi, acc, ds, ti, ii, hpi, nbi, hd, hdl, eq⟩
    rw [hlen, List.drop_length] at eq
    have eq1 : compM vs mi st mt me Γ bs = some (.ok ds, bi) := by
      rw [tot, ← eq]
      show some (Res.ok (ds ++ []), bi) = _
      rw [List.append_nil]
    refine h1 ds bi eq1 (.ref p) Bi H' (t1.trans i1 ti) ii ⟨⟨p, acc, rfl, nbp, nbi, hpi, hd⟩, fun a ha => ?_⟩
    cases ha
    exact t1.hh.dom p hp
theorem mono_t {n : Nat} {t : TGs} (a : MonoGs t) : MonoG (gTup K n t) := fun _ _ _ _ _ h ⟨p, xs, e, h1, l, q⟩ => ⟨p, xs, e, h1, l, a _ _ _ _ _ h q⟩
/-- a fresh list as a datum -/
def lstOf (m : Ga → M (List D)) : Ga → M D := fun Γ => M.bnd (m Γ) fun ds => M.ret (.lst ds)
theorem dg_fresh {te : TE} {m : Ga → M (List D)} (h : ∀ ba B0 H0 σ Γ bs B H, Sta g K ba B0 H0 σ Γ bs B H → Ev g E (fun ba B' H' ds v => RN K ba B' H' ds v ∧ ∀ a, v = .ref a → H a = none) ba te σ B H (m Γ bs)) : DG g K E (RD K) te (lstOf m) := by
  intro ba B0 H0 σ Γ bs B H s Q hn h1 h2
  refine (h ba B0 H0 σ Γ bs B H s).bnd (f := fun ds => M.ret (D.lst ds)) hn h2 fun ds b1 e1 e1' n1 v B1 H1 t1 i1 d1 x1 => ?_
  have s1 := s.step t1 i1
  obtain ⟨⟨a, vs, rfl, na, nb, ha, hd⟩, nw⟩ := d1
  have nH := nw a rfl
  have bb : Ex ba B1 (upd B1 a (.lst vs)) := ⟨fun b o _ hb _ => by rw [upd_ne (fun z => by rw [z, nb] at hb; cases hb)]; exact hb, fun b z => (upd_dom z).2⟩
  refine h1 _ b1 e1' _ (upd B1 a (.lst vs)) H1 ⟨t1.bb.trans bb, t1.hh, ⟨fun b o nb' hb nt => ?_, fun b z => ?_⟩, fun b o hb nt z => ?_, t1.tb⟩ i1 (den_lst' upd_same (Dens.mono bb s1.off _ _ hd))
  · by_cases c : b = a
    · rw [c, upd_same] at hb
      cases hb
      rw [c]
      exact ha
    · rw [upd_ne c] at hb
      exact t1.bh.keep b o nb' hb nt
  · rw [upd_ne (fun c => by rw [c, ha] at z; cases z)]
    exact t1.bh.dom b z
  · rw [upd_ne (fun c => by rw [c, nH] at hb; cases hb)]
    exact t1.nw b o hb nt z
end
end DL

set_option Elab.async false
set_option linter.all false
set_option maxRecDepth 100000
set_option maxHeartbeats 400000
/-! Defs, their calls; the bag. -/
namespace DL
open PySem PySem.Spec PyProof.Rows L2
/-- a def's promise on data: n arguments, f what it does -/
def spD (g : Gx) (K : PySem.W.Frag) (n : Nat) (f : List D → M D) : Sp := fun vs H Q E => ∃ ba B ds bs, ds.length = n ∧ Ex ba B H ∧ BagOff ba B ∧ BagIs ba bs H ∧ TabC g K ba B H ∧ Dens K ba B ds vs ∧ f ds bs ≠ none ∧
  (∀ x bs', f ds bs = some (.ok x, bs') → ∀ v B' H', Step g ba B H B' H' → BagIs ba bs' H' → Den K ba B' x v → Q v H') ∧ Xw g E ba B H (f ds bs)
/-- the body's outcome as the def's -/
def outK : Fl → M D
  | .nx _ => M.ret .non
  | .rt d => M.ret d
  | _ => stuck
def initG (n : Nat) (ds : List D) : Ga := ds.map S.d ++ List.replicate (n - ds.length) S.no
def runD (n : Nat) (m : Ga → M Fl) (ds : List D) : M D := M.bnd (m (initG n ds)) outK
section
variable {g : Gx} {E : XK} {K : PySem.W.Frag} {ba : Mu}
theorem dens_slot {B : Hp} : ∀ {ds : List D} {vs : List V} (i : Nat) (s : S), Dens K ba B ds vs → (ds.map S.d)[i]? = some s → ∃ d v, s = .d d ∧ vs[i]? = some v ∧ Den K ba B d v := fun {ds vs} i s h e => by
  rw [List.getElem?_map] at e
  obtain ⟨d, h1, rfl⟩ := Option.map_eq_some_iff.mp e
  obtain ⟨v, h2, h3⟩ := h.get h1
  exact ⟨d, v, rfl, h2, h3⟩
theorem sta_init {N : List Str} {B H : Hp} {ds : List D} {vs : List V} {bs : MS} (hn : ds.length ≤ N.length) (gd : g.good ba B H) (tab : TabC g K ba B H) (e : Ex ba B H) (f : BagOff ba B) (bi : BagIs ba bs H) (d : Dens K ba B ds vs) :
    Sta g K ba B H (start N vs) (initG N.length ds) bs B H := by
  have hl := d.length
  have hst : start N vs = vs.map some ++ List.replicate (N.length - vs.length) none := rfl
  refine ⟨?_, gd, tab.tab, Step.refl e, f, bi, fun i s hs => ?_, fun i j a es fs h1 => ?_, tab.cst⟩
  · rw [hst]
    unfold initG
    simp only [List.length_append, List.length_map, List.length_replicate]
    omega
  · unfold initG at hs
    by_cases c : i < ds.length
    · rw [List.getElem?_append_left (by simpa using c)] at hs
      obtain ⟨x, v, rfl, h2, h3⟩ := dens_slot i s d hs
      rw [hst, List.getElem?_append_left (by simpa [hl] using c), List.getElem?_map, h2]
      exact ⟨v, rfl, h3⟩
    · rw [List.getElem?_append_right (by simpa using Nat.le_of_not_lt c)] at hs
      have : s = .no := by
        have := List.mem_of_getElem? hs
        exact (List.mem_replicate.mp this).2
      rw [this]
      exact True.intro
  · unfold initG at h1
    have := List.mem_of_getElem? h1
    rcases List.mem_append.mp this with h | h
    · obtain ⟨d, _, z⟩ := List.mem_map.mp h
      cases z
    · have := (List.mem_replicate.mp h).2
      cases this
/-- a def that may raise, where what it lets out has no context -/
theorem fun_okN {P : Program} {w : World} {mg : Str → Option Value} {base : Heap} {x qual : Str} {st : Stmt} {f : Addr} {fd : FuncData} {N ps : List Str} {k : Nat} {sp : Sp} (F : Fun K x qual st f fd) (S : FnScope N ps (defScope st)) (hl : ∀ vs H Q E, sp vs H Q E → vs.length = ps.length)
    (hbody : ∀ (cdv : Value) (A : Around) (outer : List Env) (s : Shared) (H : Hp) (vs : List V) (Q : VK) (E : XK), Room k (A.deeper (envOfC qual (defScope st) s.heap.objs.size f cdv)) → sp vs H Q E → ∃ t, PSs (cxOf (L2N.CX P w) P w K mg base N qual (defScope st) f cdv A outer s H E) (defBody st) t ∧ t { nx := fun _ H' => Q .non H', rt := Q } (start N vs) H) :
    FnOk P w K mg base (L2N.CX P w) (k + 1) f fd ps sp := by
  obtain ⟨oc, od, kV, doc, pm, an, cdv, ct, osl, e, lk, hcd⟩ := F.ex
  subst e
  exact fn_of lk hcd S hl fun A outer s H vs Q E hr hsp => hbody cdv A outer s H vs Q E hr hsp
theorem passN {X : Cx} : Passes (L2N.CX X.prog X.w) X E0 := fun _ _ _ _ e _ _ h => by
  obtain ⟨_, _, _, _, _, _, _, _, _, _, _, _, z⟩ := h
  exact z.elim
/-- THE RULE of a def: its body on data -/
theorem fn_data {P : Program} {w : World} {mg : Str → Option Value} {base : Heap} {x qual : Str} {st : Stmt} {f : Addr} {fd : FuncData} {N ps : List Str} {k : Nat} {m : Ga → M Fl} (F : Fun K x qual st f fd) (S : FnScope N ps (defScope st)) (hps : ps.length ≤ N.length) (hgd : ∀ ba B H, g.good ba B H)
    (hbody : ∀ (cdv : Value) (A : Around) (outer : List Env) (s : Shared) (H : Hp) (E : XK), Room k (A.deeper (envOfC qual (defScope st) s.heap.objs.size f cdv)) → ∃ t, PDSs g E (cxOf (L2N.CX P w) P w K mg base N qual (defScope st) f cdv A outer s H E) (defBody st) t m) :
    FnOk P w K mg base (L2N.CX P w) (k + 1) f fd ps (spD g K ps.length (runD N.length m)) := by
  refine fun_okN F S (fun vs H Q E h => ?_) (fun cdv A outer s H vs Q E hr h => ?_)
  · obtain ⟨ba, B, ds, bs, hl, _, _, _, _, hd, _⟩ := h
    rw [hd.length, hl]
  · obtain ⟨t, ht⟩ := hbody cdv A outer s H E hr
    obtain ⟨ba, B, ds, bs, hl, e, f, bi, tab, hd, hn, hok, hx⟩ := h
    refine ⟨t, ht.pe, ht.de ba B H (start N vs) (initG N.length ds) bs B H _ (sta_init (by omega) (hgd _ _ _) tab e f bi hd) ?_⟩
    cases q : m (initG N.length ds) bs with
    | none => exact absurd (show runD N.length m ds bs = none from bnd_none q) hn
    | some r =>
      obtain ⟨r, b1⟩ := r
      cases r with
      | ex c => exact ⟨fun z => (nomatch z), fun _ _ z => (nomatch z), fun _ _ z => (nomatch z), fun _ _ z => (nomatch z), fun _ _ z => (nomatch z), fun c' bs' z B' H' t' b' => by cases z; exact hx c b1 (bnd_ex q) B' H' t' b'⟩
      | ok fl =>
        have e1 : runD N.length m ds bs = outK fl b1 := bnd_ok q
        cases fl with
        | nx Γ' => exact ⟨fun z => (nomatch z), fun Γ2 bs' z σ' B' H' s' _ => by cases z; exact hok .non b1 e1 .non B' H' s'.ent s'.bag den_non', fun _ _ z => (nomatch z), fun _ _ z => (nomatch z), fun _ _ z => (nomatch z), fun _ _ z => (nomatch z)⟩
        | rt d => exact ⟨fun z => (nomatch z), fun _ _ z => (nomatch z), fun _ _ z => (nomatch z), fun _ _ z => (nomatch z), fun x bs' z v B' H' t' b' d' => by cases z; exact hok d b1 e1 v B' H' t' b' d', fun _ _ z => (nomatch z)⟩
        | bk Γ' => exact absurd (show runD N.length m ds bs = none from e1) hn
        | ct Γ' => exact absurd (show runD N.length m ds bs = none from e1) hn
end
section
variable {g : Gx} {E : XK} {X : Cx} {CX : CXT} {k n : Nat} {f : Addr} {fd : FuncData} {ps : List Str} {fn : List D → M D}
def callK (n : Nat) (fn : List D → M D) (xs : List D) : M D := if xs.length = n then fn xs else stuck
theorem callK_inv {n : Nat} {fn : List D → M D} {xs : List D} {bs : MS} (h : callK n fn xs bs ≠ none) : xs.length = n ∧ callK n fn xs bs = fn xs bs := by
  unfold callK at h ⊢
  by_cases c : xs.length = n
  · rw [if_pos c]; exact ⟨c, rfl⟩
  · rw [if_neg c] at h; exact absurd rfl h
theorem dg_fn {K : PySem.W.Frag} {t : TA} {ms : Ga → M (List D)} (a : DG g K E (RA K) t ms) : DG g K E (RD K) (tCall (spD g K n fn) [] E t) (fun Γ => M.bnd (ms Γ) (callK n fn)) := by
  intro ba B0 H0 σ Γ bs B H s Q hn h1 h2
  refine (a ba B0 H0 σ Γ bs B H s).bnd (f := callK n fn) hn h2 fun xs b1 e1 e1' n1 vs B1 H1 t1 i1 d1 x1 => ?_
  have s1 := s.step t1 i1
  obtain ⟨hl, e2⟩ := callK_inv n1
  rw [e2] at n1 x1
  rw [List.append_nil]
  exact ⟨ba, B1, xs, b1, hl, s1.sub, s1.off, i1, s1.tc, d1, n1, fun x bs' e v B' H' t' b' d' => h1 x bs' (e1'.trans (e2.trans e)) v B' H' (t1.trans i1 t') b' d', x1⟩
theorem pd_fn {x : Str} {p pos : Pos} {e : Expr} {es : List Expr} {t : TA} {ms : Ga → M (List D)} (F : FnOk X.prog X.w X.K X.mg X.base CX k f fd ps (spD g X.K n fn)) (hr : Room k X.A) (hm : X.mg x = some (.ref f)) (hk : PySem.W.keepIn X.K (.ref f) = true) (hb : Binds X.K fd ps []) (hx : Passes CX X E)
    (ha : PDA g E X (e :: es) t ms) (hg : Gl X x := by rfl) (hdb : (x == ("__debug__" : Str)) = false := by decide) (he : starEach (e :: es) X.env = (false, eval e X.env) :: starEach es X.env := by rfl) (hpl : (backTo pos (starEach es X.env)).any (·.1) = false := by rfl) :
    PD g E X (.Call (.Name x p) (e :: es) [] pos) (tCall (spD g X.K n fn) [] E t) (fun Γ => M.bnd (ms Γ) (callK n fn)) := ⟨pe_call F hr hg hm hk hb .nil hx ha.pe hdb he hpl, dg_fn ha.de⟩
theorem pd_fn0 {x : Str} {p pos : Pos} (F : FnOk X.prog X.w X.K X.mg X.base CX k f fd ps (spD g X.K n fn)) (hr : Room k X.A) (hm : X.mg x = some (.ref f)) (hk : PySem.W.keepIn X.K (.ref f) = true) (hb : Binds X.K fd ps []) (hx : Passes CX X E)
    (hg : Gl X x := by rfl) (hdb : (x == ("__debug__" : Str)) = false := by decide) :
    PD g E X (.Call (.Name x p) [] [] pos) (tCall (spD g X.K n fn) [] E tNil) (fun Γ => M.bnd (M.ret []) (callK n fn)) := ⟨pe_call0 F hr hg hm hk hb .nil hx hdb, dg_fn pa_n.de⟩
/-! ### the bag -/
def popK : M D := fun b => match b.bag with
  | x :: r => some (.ok (.int x), { b with bag := r })
  | [] => none
def popM (i : Nat) : Ga → M D := fun Γ => match Γ[i]? with
  | some (.d .bag) => popK
  | _ => stuck
theorem Step.bag {ba : Mu} {B H : Hp} {a : Addr} {vs ws : List V} (hb : ba.bag = some a) (e : Ex ba B H) (h : H a = some (.lst vs)) : Step g ba B H B (upd H a (.lst ws)) := by
  refine ⟨Ex.refl _, ⟨fun b o nb' hb' nt => ?_, fun b z => (upd_dom z).2⟩, ⟨fun b o nb' hb' nt => ?_, fun b z => e.dom b (upd_dom z).2⟩, fun _ _ _ _ z => z, fun x => tabs_upd h x⟩
  · rw [upd_ne (fun z => nb' (by rw [z]; exact .inl hb))]
    exact hb'
  · rw [upd_ne (fun z => nb' (by rw [z]; exact .inl hb))]
    exact e.keep b o nb' hb' nt
theorem BagIs.setBag {ba : Mu} {bs : MS} {H : Hp} {a : Addr} (i : BagIs ba bs H) (hb : ba.bag = some a) (r : List Int) : BagIs ba { bs with bag := r } (upd H a (.lst (r.map V.int))) :=
  ⟨fun b h => by
    rw [hb] at h
    cases h
    exact upd_same, i.cds, fun c hc => by
    have ha := i.bag a hb
    obtain ⟨p, h1, h2, h3⟩ := i.card c hc
    refine ⟨p, ?_, ?_, ?_⟩
    · rw [upd_ne (fun z => by rw [z, ha] at h1; cases h1)]; exact h1
    · rw [upd_ne (fun z => by rw [z, ha] at h2; cases h2)]; exact h2
    · rw [upd_ne (fun z => by rw [z, ha] at h3; cases h3)]; exact h3⟩
/-- bag.pop(0) -/
theorem dg_pop {K : PySem.W.Frag} {i : Nat} : DG g K E (RD K) (tBM K "list" rPopAt (tVar i) (tCons (tC (.int 0)) tNil)) (popM i) := by
  intro ba B0 H0 σ Γ bs B H s Q hn h1 h2
  cases q : Γ[i]? with
  | none => exact absurd (show popM i Γ bs = none by unfold popM; rw [q]; rfl) hn
  | some y =>
    have no : ∀ z : S, z ≠ .d .bag → Γ[i]? = some z → popM i Γ bs = none := fun z hz e => by
      unfold popM
      rw [e]
      cases z with
      | d x => cases x <;> first | rfl | exact absurd rfl hz
      | _ => rfl
    by_cases c : y = .d .bag
    · subst c
      have e0 : popM i Γ bs = popK bs := by unfold popM; rw [q]
      obtain ⟨v, e1, d⟩ := s.slot i _ q
      obtain ⟨a, hb, rfl⟩ := den_bag d
      cases qb : bs.bag with
      | nil => exact absurd (e0.trans (by unfold popK; rw [qb])) hn
      | cons x r =>
        have e1' : popK bs = some (.ok (.int x), { bs with bag := r }) := by unfold popK; rw [qb]
        have hH := s.bag.bag a hb
        rw [qb] at hH
        refine ⟨.ref a, join_some e1, .inl ⟨rfl, _, SqL.of hH⟩, ?_⟩
        refine ⟨a, _, 0, 0, .int x, rfl, rfl, hH, by decide, by decide, ?_, rfl, ?_⟩
        · have : 0 < ((x :: r).map V.int).length := by simp
          unfold seqIndex?
          simp
        · show Q (.int x) (upd H a (.lst (r.map V.int)))
          exact h1 (.int x) _ (e0.trans e1') _ B _ (Step.bag hb s.sub hH) (s.bag.setBag hb r) den_int'
    · exact absurd (no y c q) hn
theorem pd_pop {i : Nat} {x e : Expr} {apos cpos : Pos} (h : PE X (.Call (.Attribute x "pop" apos) [e] [] cpos) (tBM X.K "list" rPopAt (tVar i) (tCons (tC (.int 0)) tNil))) : PD g E X (.Call (.Attribute x "pop" apos) [e] [] cpos) (tBM X.K "list" rPopAt (tVar i) (tCons (tC (.int 0)) tNil)) (popM i) := ⟨h, dg_pop⟩
/-- bag != [] -/
def bneM (i : Nat) : Ga → M Bool := fun Γ => match Γ[i]? with
  | some (.d .bag) => fun b => some (.ok (!b.bag.isEmpty), b)
  | _ => stuck
theorem dpAll_ints {K : PySem.W.Frag} {H : Hp} : ∀ ns : List Int, DpAll K H (ns.map V.int) (ns.map PyData.int)
  | [] => .nil
  | n :: r => .cons (.int n) (dpAll_ints r)
theorem lay_ints : ∀ ns : List Int, PyData.canLayAll0 (ns.map PyData.int) = true
  | [] => by simp [PyData.canLayAll0]
  | n :: r => by simp [PyData.canLayAll0, PyData.canLay0]; simpa using lay_ints r
theorem depth_ints : ∀ ns : List Int, PyData.depthAll (ns.map PyData.int) = 0
  | [] => by simp [PyData.depthAll]
  | n :: r => by simp [PyData.depthAll, PyData.depth]; simpa using depth_ints r
theorem shaped_ints (ns : List Int) : SeqAt.shaped (.list (ns.map PyData.int)) = true := by
  show (PyData.canLay0 (.list (ns.map PyData.int)) && decide (PyData.depth (.list (ns.map PyData.int)) ≤ 64)) = true
  simp only [PyData.canLay0, PyData.depth, lay_ints, depth_ints, Bool.true_and]
  decide
theorem dg_bne {K : PySem.W.Frag} {i : Nat} : DG g K E RE (tTest (tOp (rNeD K) (tVar i) (tLst tNil))) (bneM i) := by
  intro ba B0 H0 σ Γ bs B H s Q hn h1 h2
  cases q : Γ[i]? with
  | none => exact absurd (show bneM i Γ bs = none by unfold bneM; rw [q]; rfl) hn
  | some y =>
    have no : ∀ z : S, z ≠ .d .bag → Γ[i]? = some z → bneM i Γ bs = none := fun z hz e => by
      unfold bneM
      rw [e]
      cases z with
      | d x => cases x <;> first | rfl | exact absurd rfl hz
      | _ => rfl
    by_cases c : y = .d .bag
    · subst c
      have e0 : bneM i Γ bs = some (.ok (!bs.bag.isEmpty), bs) := by unfold bneM; rw [q]
      obtain ⟨v, e1, d⟩ := s.slot i _ q
      obtain ⟨a, hb, rfl⟩ := den_bag d
      refine ⟨.ref a, join_some e1, Nat.zero_le _, fun p hp => ?_⟩
      have hH := s.bag.bag a hb
      have hH2 : upd H p (.lst []) a = some (.lst (bs.bag.map V.int)) := by rw [upd_ne (ne_of_none hH hp)]; exact hH
      refine ⟨.list (bs.bag.map PyData.int), .list [], .lst (SqL.of hH2) (dpAll_ints bs.bag), .lst (SqL.of upd_same) .nil, shaped_ints bs.bag, by decide, _, rfl, ?_⟩
      have e2 : (!PyData.eqv (.list (bs.bag.map PyData.int)) (.list [])) = !bs.bag.isEmpty := by cases bs.bag <;> simp [PyData.eqv, PyData.eqvAll]
      rw [e2]
      exact h1 _ bs e0 _ _ _ (Step.newH s.sub hp) (s.bag.new hp) rfl
    · exact absurd (no y c q) hn
end
end DL

set_option Elab.async false
set_option linter.all false
set_option maxRecDepth 100000
set_option maxHeartbeats 400000
/-! Built-in functions on data. -/
namespace DL
open PySem PySem.Spec PyProof.Rows L2
section
variable {g : Gx} {K : PySem.W.Frag} {ba : Mu} {B H : Hp}
theorem denTs_nil {vs : List V} (h : DenTs K ba B H [] vs) : vs = [] := h
theorem denTs_one {d : D} {vs : List V} (h : DenTs K ba B H [d] vs) : ∃ v, vs = [v] ∧ DenT K ba B H d v := by
  obtain ⟨v, r, e, h1, h2⟩ := h
  exact ⟨v, by rw [e, denTs_nil h2], h1⟩
theorem denTs_two {d e : D} {vs : List V} (h : DenTs K ba B H [d, e] vs) : ∃ v w, vs = [v, w] ∧ DenT K ba B H d v ∧ DenT K ba B H e w := by
  obtain ⟨v, r, e1, h1, h2⟩ := h
  obtain ⟨w, e2, h3⟩ := denTs_one h2
  exact ⟨v, w, by rw [e1, e2], h1, h3⟩
/-! ### len -/
def D.len : List D → Option D
  | [.lst ds] => some (.int ds.length)
  | [.scr ns] => some (.int ns.length)
  | [.tup ds] => some (.int ds.length)
  | [.str z] => if z.length ≤ 100000 then some (.int z.length) else none
  | _ => none
def rLenD (K : PySem.W.Frag) : List V → Hp → VK → Prop := fun xs H Q => (∃ p ys, xs = [.ref p] ∧ (SqL K H p ys ∨ SqT K H p ys) ∧ Q (.int ys.length) H) ∨ ∃ z, xs = [.str z] ∧ z.length ≤ sizeLine ∧ Q (.int z.length) H
theorem cl_len {X : Cx} : CallR X (.builtin "len") (rLenD X.K) := call_len_seq.or call_len_str
theorem cd_len : CallD g K (rLenD K) D.len := by
  intro ba B H bs xs z vs hz e f bi dx Q q
  unfold D.len at hz
  split at hz
  · rename_i ds
    cases hz
    obtain ⟨v, rfl, d⟩ := denTs_one dx
    obtain ⟨a, ws, rfl, ha, hd⟩ := d.lst e f
    exact .inl ⟨a, ws, rfl, .inl (SqL.of ha), by rw [hd.length]; exact q _ B H (Step.refl e) bi den_int'⟩
  · rename_i ns
    cases hz
    obtain ⟨v, rfl, d⟩ := denTs_one dx
    obtain ⟨a, rfl, ha⟩ := den_scr (d.den (fun _ z => by cases z))
    exact .inl ⟨a, _, rfl, .inl (sqL_ex e f ha), by rw [List.length_map]; exact q _ B H (Step.refl e) bi den_int'⟩
  · rename_i ds
    cases hz
    obtain ⟨v, rfl, d⟩ := denTs_one dx
    obtain ⟨a, ws, rfl, ha, hd⟩ := d.tup e f
    exact .inl ⟨a, ws, rfl, .inr ha, by rw [hd.length]; exact q _ B H (Step.refl e) bi den_int'⟩
  · rename_i w
    obtain ⟨h1, rfl⟩ := of_ite hz
    obtain ⟨v, rfl, d⟩ := denTs_one dx
    rw [d.str]
    exact .inr ⟨w, rfl, sz5 h1, q _ B H (Step.refl e) bi den_int'⟩
  · cases hz
/-! ### isinstance -/
def tyD : D → Option String
  | .non => some "NoneType"
  | .bl _ => some "bool"
  | .int _ => some "int"
  | .str _ => some "str"
  | .tup _ => some "tuple"
  | .lst _ => some "list"
  | _ => none
theorem tyX_of {d : D} {v : V} {t : String} (e : Ex ba B H) (f : BagOff ba B) (h : DenT K ba B H d v) (ht : tyD d = some t) : TyX K H v (.type t) := by
  cases d with
  | non => cases ht; rw [h.non]; exact .base .non
  | bl b => cases ht; rw [h.bl]; exact .base (.bl b)
  | int i => cases ht; rw [h.int]; exact .base (.int i)
  | str x => cases ht; rw [h.str]; exact .base (.str x)
  | tup ds =>
    cases ht
    obtain ⟨a, vs, rfl, ha, _⟩ := h.tup e f
    rcases ha with (h1 | ⟨o, h1⟩) | ⟨o, its, n, h1, h2, _⟩
    · exact .base (.tup h1)
    · exact .fTuple h1
    · exact .kTuple h1 h2
  | lst ds =>
    cases ht
    obtain ⟨a, vs, rfl, ha, _⟩ := h.lst e f
    exact .base (.lst ha)
  | bag => cases ht
  | obj u => cases ht
  | scr u => cases ht
  | fn u => cases ht
  | card => cases ht
  | crd u => cases ht
def kTypes : List String := ["NoneType", "bool", "int", "str", "tuple", "list"]
def kAsked : List String := ["int", "bool", "str", "tuple", "list"]
def isiB (t n : String) : Bool := t == n || (t == "bool" && n == "int")
theorem kit_all : (kTypes.all fun t => kAsked.all fun n => kitB t n == some (isiB t n)) = true := by decide +kernel
theorem tyD_in {d : D} {t : String} (h : tyD d = some t) : t ∈ kTypes := by
  cases d <;> first | (cases h; done) | (cases h; simp [kTypes])
def D.isi : List D → Option D
  | [x, .obj (.ty n)] => match tyD x with
    | some t => if n ∈ kAsked then some (.bl (isiB t n)) else none
    | none => none
  | _ => none
theorem cd_isi : CallD g K (rIsi K) D.isi := by
  intro ba B H bs xs z vs hz e f bi dx Q q
  unfold D.isi at hz
  split at hz
  · rename_i x n
    split at hz
    · rename_i t ht
      obtain ⟨h1, rfl⟩ := of_ite hz
      obtain ⟨v, w, rfl, d1, d2⟩ := denTs_two dx
      rw [d2.obj]
      have hk : kitB t n = some (isiB t n) := by
        have := kit_all
        rw [List.all_eq_true] at this
        have := this t (tyD_in ht)
        rw [List.all_eq_true] at this
        exact eq_of_beq (this n h1)
      exact ⟨v, .ty n, .type t, .type n, isiB t n, rfl, .ty n, tyX_of e f d1 ht, kit_ty hk, q _ B H (Step.refl e) bi den_bl'⟩
    · cases hz
  · cases hz
/-! ### all, any, sum, min, max -/
def bls : List D → Option (List Bool)
  | [] => some []
  | .bl b :: r => (bls r).map (b :: ·)
  | _ => none
def intL : List D → Option (List Int)
  | [] => some []
  | .int b :: r => (intL r).map (b :: ·)
  | _ => none
def strL : List D → Option (List Str)
  | [] => some []
  | .str b :: r => (strL r).map (b :: ·)
  | _ => none
theorem bls_den : ∀ {ds : List D} {bs : List Bool} {vs : List V}, bls ds = some bs → Dens K ba B ds vs → vs = bs.map V.bl
  | [], _, _, h, d => by cases h; exact dens_nil_inv d
  | x :: r, _, _, h, d => by
    cases x with
    | bl b =>
      obtain ⟨bs', h1, rfl⟩ := Option.map_eq_some_iff.mp (show (bls r).map (b :: ·) = some _ from h)
      obtain ⟨v, w, rfl, d1, d2⟩ := dens_cons_inv d
      rw [den_bl d1, bls_den h1 d2]; rfl
    | _ => cases h
theorem ints_den : ∀ {ds : List D} {bs : List Int} {vs : List V}, intL ds = some bs → Dens K ba B ds vs → vs = bs.map V.int
  | [], _, _, h, d => by cases h; exact dens_nil_inv d
  | x :: r, _, _, h, d => by
    cases x with
    | int b =>
      obtain ⟨bs', h1, rfl⟩ := Option.map_eq_some_iff.mp (show (intL r).map (b :: ·) = some _ from h)
      obtain ⟨v, w, rfl, d1, d2⟩ := dens_cons_inv d
      rw [den_int d1, ints_den h1 d2]; rfl
    | _ => cases h
theorem strL_den : ∀ {ds : List D} {bs : List Str} {vs : List V}, strL ds = some bs → Dens K ba B ds vs → vs = bs.map V.str
  | [], _, _, h, d => by cases h; exact dens_nil_inv d
  | x :: r, _, _, h, d => by
    cases x with
    | str b =>
      obtain ⟨bs', h1, rfl⟩ := Option.map_eq_some_iff.mp (show (strL r).map (b :: ·) = some _ from h)
      obtain ⟨v, w, rfl, d1, d2⟩ := dens_cons_inv d
      rw [den_str d1, strL_den h1 d2]; rfl
    | _ => cases h
theorem ints_map (ns : List Int) : intL (ns.map D.int) = some ns := by
  induction ns with
  | nil => rfl
  | cons n r ih => show (intL (r.map D.int)).map (n :: ·) = _; rw [ih]; rfl
theorem bls_map (ns : List Bool) : bls (ns.map D.bl) = some ns := by
  induction ns with
  | nil => rfl
  | cons n r ih => show (bls (r.map D.bl)).map (n :: ·) = _; rw [ih]; rfl
theorem strL_map (ns : List Str) : strL (ns.map D.str) = some ns := by
  induction ns with
  | nil => rfl
  | cons n r ih => show (strL (r.map D.str)).map (n :: ·) = _; rw [ih]; rfl
def D.all : List D → Option D
  | [.lst ds] => (bls ds).map fun bs => .bl (bs.all id)
  | _ => none
theorem cd_all : CallD g K (rAll K) D.all := by
  intro ba B H bs xs z vs hz e f bi dx Q q
  unfold D.all at hz
  split at hz
  · rename_i ds
    obtain ⟨b, hb, rfl⟩ := Option.map_eq_some_iff.mp hz
    obtain ⟨v, rfl, d⟩ := denTs_one dx
    obtain ⟨a, ws, rfl, ha, hd⟩ := d.lst e f
    rw [bls_den hb hd] at ha
    exact ⟨a, b, rfl, SqL.of ha, q _ B H (Step.refl e) bi den_bl'⟩
  · cases hz
def D.any : List D → Option D
  | [.lst ds] => (bls ds).map fun bs => .bl (bs.any id)
  | _ => none
theorem cd_any : CallD g K (rAny K) D.any := by
  intro ba B H bs xs z vs hz e f bi dx Q q
  unfold D.any at hz
  split at hz
  · rename_i ds
    obtain ⟨b, hb, rfl⟩ := Option.map_eq_some_iff.mp hz
    obtain ⟨v, rfl, d⟩ := denTs_one dx
    obtain ⟨a, ws, rfl, ha, hd⟩ := d.lst e f
    rw [bls_den hb hd] at ha
    exact ⟨a, b, rfl, SqL.of ha, q _ B H (Step.refl e) bi den_bl'⟩
  · cases hz
def D.sum : List D → Option D
  | [.lst ds] => (intL ds).map fun ns => .int ns.sum
  | _ => none
theorem cd_sum : CallD g K (rSum K) D.sum := by
  intro ba B H bs xs z vs hz e f bi dx Q q
  unfold D.sum at hz
  split at hz
  · rename_i ds
    obtain ⟨b, hb, rfl⟩ := Option.map_eq_some_iff.mp hz
    obtain ⟨v, rfl, d⟩ := denTs_one dx
    obtain ⟨a, ws, rfl, ha, hd⟩ := d.lst e f
    rw [ints_den hb hd] at ha
    exact ⟨a, b, rfl, SqL.of ha, q _ B H (Step.refl e) bi den_int'⟩
  · cases hz
def D.min2 : List D → Option D
  | [.int i, .int j] => some (.int (if j < i then j else i))
  | _ => none
def D.max2 : List D → Option D
  | [.int i, .int j] => some (.int (if j > i then j else i))
  | _ => none
theorem cd_min2 : CallD g K (fun xs H Q => ∃ i j, xs = [.int i, .int j] ∧ Q (.int (if j < i then j else i)) H) D.min2 := by
  intro ba B H bs xs z vs hz e f bi dx Q q
  unfold D.min2 at hz
  split at hz
  · rename_i i j
    cases hz
    obtain ⟨v, w, rfl, d1, d2⟩ := denTs_two dx
    rw [d1.int, d2.int]
    exact ⟨i, j, rfl, q _ B H (Step.refl e) bi den_int'⟩
  · cases hz
theorem cd_max2 : CallD g K (fun xs H Q => ∃ i j, xs = [.int i, .int j] ∧ Q (.int (if j > i then j else i)) H) D.max2 := by
  intro ba B H bs xs z vs hz e f bi dx Q q
  unfold D.max2 at hz
  split at hz
  · rename_i i j
    cases hz
    obtain ⟨v, w, rfl, d1, d2⟩ := denTs_two dx
    rw [d1.int, d2.int]
    exact ⟨i, j, rfl, q _ B H (Step.refl e) bi den_int'⟩
  · cases hz
/-! ### int, str, tuple, list -/
def D.toInt : List D → Option D
  | [.int i] => some (.int i)
  | [.bl b] => some (.int (if b then 1 else 0))
  | [.str a] => if a.length ≤ 640 then (PySem.intText? a).map .int else none
  | _ => none
def rIntD : List V → Hp → VK → Prop := fun xs H Q => ((∃ i, xs = [.int i] ∧ Q (.int i) H) ∨ ∃ k, xs = [.bl k] ∧ Q (.int (if k then 1 else 0)) H) ∨ ∃ a n, xs = [.str a] ∧ PySem.intText? a = some n ∧ a.length ≤ 640 ∧ Q (.int n) H
theorem cl_int {X : Cx} : CallR X (.type "int") rIntD := call_int1.or call_int_str
theorem cd_int : CallD g K rIntD D.toInt := by
  intro ba B H bs xs z vs hz e f bi dx Q q
  unfold D.toInt at hz
  split at hz
  · rename_i i
    cases hz
    obtain ⟨v, rfl, d⟩ := denTs_one dx
    rw [d.int]
    exact .inl (.inl ⟨i, rfl, q _ B H (Step.refl e) bi den_int'⟩)
  · rename_i b
    cases hz
    obtain ⟨v, rfl, d⟩ := denTs_one dx
    rw [d.bl]
    exact .inl (.inr ⟨b, rfl, q _ B H (Step.refl e) bi den_int'⟩)
  · rename_i a
    by_cases c : a.length ≤ 640
    · rw [if_pos c] at hz
      obtain ⟨n, hn, rfl⟩ := Option.map_eq_some_iff.mp hz
      obtain ⟨v, rfl, d⟩ := denTs_one dx
      rw [d.str]
      exact .inr ⟨a, n, rfl, hn, c, q _ B H (Step.refl e) bi den_int'⟩
    · rw [if_neg c] at hz
      cases hz
  · cases hz
def D.toStr : List D → Option D
  | [.int i] => if i.natAbs < 1000000 then some (.str (toString i)) else none
  | _ => none
theorem cd_str : CallD g K (fun xs H Q => ∃ i : Int, xs = [.int i] ∧ i.natAbs.log2 < 1920 ∧ Q (.str (toString i)) H) D.toStr := by
  intro ba B H bs xs z vs hz e f bi dx Q q
  unfold D.toStr at hz
  split at hz
  · rename_i i
    obtain ⟨h1, rfl⟩ := of_ite hz
    obtain ⟨v, rfl, d⟩ := denTs_one dx
    rw [d.int]
    refine ⟨i, rfl, ?_, q _ B H (Step.refl e) bi den_str'⟩
    have h2 : i.natAbs < 2 ^ 20 := by omega
    by_cases h0 : i.natAbs = 0
    · rw [h0]; decide
    · exact Nat.lt_of_lt_of_le ((Nat.log2_lt h0).mpr h2) (by decide)
  · cases hz
def D.toTup : List D → Option D
  | [.lst ds] => some (.tup ds)
  | [.tup ds] => some (.tup ds)
  | _ => none
theorem cd_tup : CallD g K (fun xs H Q => ∃ p ys, xs = [.ref p] ∧ ((SqL K H p ys ∧ ∀ l, H l = none → Q (.ref l) (upd H l (.tup ys))) ∨ (SqT K H p ys ∧ Q (.ref p) H))) D.toTup := by
  intro ba B H bs xs z vs hz e f bi dx Q q
  unfold D.toTup at hz
  split at hz
  · rename_i ds
    cases hz
    obtain ⟨v, rfl, d⟩ := denTs_one dx
    obtain ⟨a, ws, rfl, ha, hd⟩ := d.lst e f
    refine ⟨a, ws, rfl, .inl ⟨SqL.of ha, fun p hp => ?_⟩⟩
    have t : Step g ba B H (upd B p (.tup ws)) (upd H p (.tup ws)) := Step.new e hp
    exact q _ _ _ t (bi.new hp) (den_tup' (SqT.of upd_same) (Dens.mono t.bb f _ _ hd))
  · rename_i ds
    cases hz
    obtain ⟨v, rfl, d⟩ := denTs_one dx
    obtain ⟨a, ws, rfl, ha, hd⟩ := den_tup (d.den (fun _ z => by cases z))
    exact ⟨a, ws, rfl, .inr ⟨sqT_ex e f ha, q _ B H (Step.refl e) bi (den_tup' ha hd)⟩⟩
  · cases hz
def D.toLst : List D → Option D
  | [.lst ds] => some (.lst ds)
  | [.tup ds] => some (.lst ds)
  | _ => none
theorem cd_lst : CallD g K (fun xs H Q => ∃ p ys, xs = [.ref p] ∧ (SqL K H p ys ∨ SqT K H p ys) ∧ ∀ l, H l = none → Q (.ref l) (upd H l (.lst ys))) D.toLst := by
  intro ba B H bs xs z vs hz e f bi dx Q q
  unfold D.toLst at hz
  split at hz
  · rename_i ds
    cases hz
    obtain ⟨v, rfl, d⟩ := denTs_one dx
    obtain ⟨a, ws, rfl, ha, hd⟩ := d.lst e f
    refine ⟨a, ws, rfl, .inl (SqL.of ha), fun p hp => ?_⟩
    have t : Step g ba B H (upd B p (.lst ws)) (upd H p (.lst ws)) := Step.new e hp
    exact q _ _ _ t (bi.new hp) (den_lst' upd_same (Dens.mono t.bb f _ _ hd))
  · rename_i ds
    cases hz
    obtain ⟨v, rfl, d⟩ := denTs_one dx
    obtain ⟨a, ws, rfl, ha, hd⟩ := d.tup e f
    refine ⟨a, ws, rfl, .inr ha, fun p hp => ?_⟩
    have t : Step g ba B H (upd B p (.lst ws)) (upd H p (.lst ws)) := Step.new e hp
    exact q _ _ _ t (bi.new hp) (den_lst' upd_same (Dens.mono t.bb f _ _ hd))
  · cases hz
end
end DL

set_option Elab.async false
set_option linter.all false
set_option maxRecDepth 100000
set_option maxHeartbeats 400000
/-! sorted of data, out of a list or a tuple. -/
namespace DLS
open PySem PySem.W PySem.Calls PyProof.Rows
section
variable {prog : Program} {w : World} {A : Around} {E : Value → Shared → Prop} {s : Shared}
/-- a tuple's items in a new list -/
theorem gather_tup {t : Addr} {us : List Value} {Q : List Value → Shared → Prop} (ht : IsTup s.heap t us.toArray) (hz : us.length ≤ sizeLine)
    (q : Q us { s with heap := (s.heap.push (seqObj "list" #[] 0)).update s.heap.objs.size (Obj.mapSeq (· ++ us.toArray)) }) : wpAny (model prog w) A (collect (.ref t)) Q E s := by
  obtain ⟨ob, hob, hcl, k, hdt⟩ := id ht
  have old : (s.heap.push (seqObj "list" #[] 0)).get? t = some ob := Heap.get?_push_of_some _ hob
  have mine : (s.heap.push (seqObj "list" #[] 0)).get? s.heap.objs.size = some (seqObj "list" #[] 0) := Heap.get?_push_size _ rfl
  unfold collect
  apply wpAny_bind
  apply wpAny_runValue
  refine codeAny_builtin entry_proto_collect' ?_
  show wpAny _ _ (do again (.builtin "list.__iadd__" ⟨[← newList [], .ref t], []⟩)) _ _ s
  apply wpAny_bind
  refine wpAny_newList (wpAny_pure ⟨Code.quiet_builtin _ (by decide +kernel), ?_⟩)
  refine codeAny_builtin entry_list_iadd' ?_
  show wpAny _ _ (Builtin.List.listExtendWith (.ref s.heap.objs.size) (.ref t) (.ref s.heap.objs.size)) _ _ { s with heap := s.heap.push (seqObj "list" #[] 0) }
  unfold Builtin.List.listExtendWith
  apply wpAny_bind
  refine wpAny_typeOf (T := "tuple") ⟨ob, old, hcl⟩ ?_
  have yes : (Value.type "tuple" == Value.type "tuple") = true := by rfl
  rw [if_pos (by rw [yes]; simp)]
  apply wpAny_bind
  refine listItems_at old hdt ?_
  apply wpAny_bind
  refine listItems_at (xs := #[]) (n := 0) mine rfl ?_
  rw [if_neg (by simp)]
  apply wpAny_bind
  refine listUpdate_at (xs := #[]) (n := 0) mine rfl ?_ (Nat.zero_le _) (by show (#[] ++ us.toArray).size ≤ sizeLine + 1; simp; omega)
  refine wpAny_pure ?_
  show wpAny (model prog w) A (do
      let ob ← load s.heap.objs.size
      match ob.data with
      | .seq xs _ => pure xs.toList
      | _ => unsupported "internal:collect") Q E { s with heap := (s.heap.push (seqObj "list" #[] 0)).update s.heap.objs.size (Obj.mapSeq (· ++ us.toArray)) }
  apply wpAny_bind
  refine wpAny_load (get?_update_seq mine _) ?_
  show wpAny _ _ (pure ((#[] : Array Value) ++ us.toArray).toList) Q E _
  have e : ((#[] : Array Value) ++ us.toArray).toList = us := by simp
  rw [e]
  exact wpAny_pure q
/-- sorted of a tuple -/
theorem sort_tup {t : Addr} {us : List Value} {Q : Value → Shared → Prop} {β : Type} {bs : List β} {enc : β → PyData} {R : Value → β → Prop} (ht : IsTup s.heap t us.toArray) (e : EachIs R us bs) (er : EachIs (fun v b => ∃ as, Reads s.heap v (enc b) as) us bs)
    (hal : AllAlike (bs.map enc)) (hk : Sortable (bs.map enc)) (hL : bs.length ≤ sizeLine) (hu : ∀ b, b ∈ bs → A.units + 2 + (enc b).depth < cLine)
    (h : ∀ out, out.length = bs.length → EachIs R out (bs.mergeSort (dataLe false enc)) → Q (.ref (s.heap.objs.size + 1)) { s with heap := sortedAll s.heap us (List.toArray out) }) :
    wpAny (model prog w) A (call (.builtin "sorted") [.ref t]) Q E s := by
  have hz : us.length ≤ sizeLine := by rw [e.length]; exact hL
  have er' : EachIs (fun v b => ∃ as, Reads (sortingHeap (copyHeap s.heap us) (s.heap.objs.size + 1) us) v (enc b) as) us bs := er.mono fun _ _ ⟨as, r⟩ => ⟨as, PyProof.Rows.Reads.keeps (fun _ _ => sorting_copy_old) r⟩
  have S : SortsAt prog w A.in1.in1 { s with heap := sortingHeap (copyHeap s.heap us) (s.heap.objs.size + 1) us } (dataKind (sortingHeap (copyHeap s.heap us) (s.heap.objs.size + 1) us) (bs.map enc)) us :=
    SortsAt.data (s := { s with heap := sortingHeap (copyHeap s.heap us) (s.heap.objs.size + 1) us }) (each_map (R := fun v d => ∃ as, Reads (sortingHeap (copyHeap s.heap us) (s.heap.objs.size + 1) us) v d as) enc er') hal hk (bound_map hu)
  have fin := h _ (by rw [sortVals_length false rfl]; exact e.length) (sortVals_data false e er' hal)
  refine call_function_entry_kw kind_sorted plain_sorted entry_sorted (args_sorted1 _) ?_
  unfold Builtin.«sorted»
  refine wpAny_bind (m := checkCount "sorted" 1 1 _) (wpAny_pure ?_)
  apply wpAny_bind
  refine gather_tup ht hz ?_
  apply wpAny_bind
  refine wpAny_newList ?_ hz
  have sz : ((s.heap.push (seqObj "list" #[] 0)).update s.heap.objs.size (Obj.mapSeq (· ++ us.toArray))).objs.size = s.heap.objs.size + 1 := by rw [Heap.size_update, size_push']
  show wpAny _ _ _ _ _ { s with heap := copyHeap s.heap us }
  rw [sz]
  apply wpAny_bind
  apply wpAny_holding
  refine wpAny_call_entry_kw slot_list_sort ⟨_, copyHeap_at s.heap us, rfl⟩ entry_list_sort ?_ (args_list_sort _)
  show wpAny (model prog w) A.in1.in1 (Builtin.«list.sort» ⟨[.ref (s.heap.objs.size + 1)], []⟩) _ _ _
  exact list_sort_vals (s := { s with heap := copyHeap s.heap us }) (copyHeap_at s.heap us) S hz ⟨_, rfl, wpAny_pure ⟨_, rfl, fin⟩⟩
end
end DLS
namespace DL
open PySem PySem.Spec PyProof.Rows L2
/-- sorted(xs), xs a list or a tuple of data that can be compared -/
def rSortD (K : PySem.W.Frag) : List V → Hp → VK → Prop := fun vs H Q => ∃ (a : Addr) (bs : List (V × PyData)), vs = [.ref a] ∧ (SqL K H a (bs.map Prod.fst) ∨ SqT K H a (bs.map Prod.fst)) ∧ (∀ b ∈ bs, Dp K H b.1 b.2) ∧
  PySem.W.AllAlike (bs.map Prod.snd) ∧ PySem.W.Sortable (bs.map Prod.snd) ∧ (∀ b ∈ bs, b.2.depth ≤ 20) ∧ ∀ p, H p = none → Q (.ref p) (upd H p (.lst ((bs.mergeSort (PySem.W.dataLe false Prod.snd)).map Prod.fst)))
theorem each_vals {P : Program} : ∀ {its : List Value} {bs : List (V × PyData)}, PySem.W.EachIs (fun v b => RelV b.1 v) its bs → Vals (bs.map Prod.fst) its
  | _, _, .nil => .nil
  | _, _, .cons h t => .cons h (each_vals (P := P) t)
theorem vals_each : ∀ {its : List Value} {bs : List (V × PyData)}, Vals (bs.map Prod.fst) its → PySem.W.EachIs (fun v b => RelV b.1 v) its bs
  | its, [], h => by cases h; exact .nil
  | its, b :: bs, h => by
    cases h with
    | cons h1 h2 => exact .cons h1 (vals_each h2)
theorem each_reads {X : Cx} {pins : List (Addr × Obj)} {σ : L2.St} {H : Hp} {s : Shared} (I : Inv X pins σ H s) : ∀ {its : List Value} {bs : List (V × PyData)}, (∀ b ∈ bs, Dp X.K H b.1 b.2) → PySem.W.EachIs (fun v b => RelV b.1 v) its bs → PySem.W.EachIs (fun v b => ∃ as, Reads s.heap v b.2 as) its bs
  | _, _, _, .nil => .nil
  | _, _, hd, .cons h t => .cons (Dp.reads I _ _ _ (hd _ List.mem_cons_self) h) (each_reads I (fun b hb => hd b (List.mem_cons_of_mem _ hb)) t)
theorem cl_sorted {X : Cx} (hu : X.A.units + 65 < cLine) : CallR X (.builtin "sorted") (rSortD X.K) := by
  intro pins s σ H vs us Q I r h
  obtain ⟨a, bs, rfl, hs, hd, hal, hk, hdp, q⟩ := h
  have er := r.ref1
  subst er
  have un : ∀ b ∈ bs, X.A.units + 2 + (Prod.snd b).depth < cLine := fun b hb => by have := hdp b hb; omega
  have fin : ∀ its : List Value, Vals (bs.map Prod.fst) its → bs.length ≤ sizeLine → ∀ out : List Value, out.length = bs.length → PySem.W.EachIs (fun v b => RelV b.1 v) out (bs.mergeSort (PySem.W.dataLe false Prod.snd)) →
      EP X pins σ Q (.ref (s.heap.objs.size + 1)) { s with heap := sortedAll s.heap its (List.toArray out) } := fun its hv hz out hl he => by
    obtain ⟨e, hat⟩ := sortedAll_at s.heap its (List.toArray out)
    have hn : H (s.heap.objs.size + 1) = none := I.hok.fresh (Nat.le_succ _)
    refine ⟨.ref (s.heap.objs.size + 1), _, I.laid (t' := s.toks) (fun b o hb => sortedAll_old hb) (Nat.le_succ _) ?_, rfl, q _ hn⟩
    exact ⟨by rw [List.length_map, List.length_mergeSort]; exact hz, out, e, each_vals (P := X.prog) he, hat⟩
  rcases hs with hs | hs
  · obtain ⟨its, rv, p, hz⟩ := I.list hs
    have hz' : bs.length ≤ sizeLine := by simpa using hz
    have e0 := vals_each rv
    exact PySem.W.sorted_data (l := a) (vs := its) (bs := bs) (enc := Prod.snd) (R := fun v b => RelV b.1 v) p.isList e0 (each_reads I hd e0) hal hk hz' un (fin its rv hz')
  · obtain ⟨its, rv, p, hz⟩ := I.tuple hs
    have hz' : bs.length ≤ sizeLine := by simpa using hz
    have e0 := vals_each rv
    exact DLS.sort_tup (t := a) (us := its) (bs := bs) (enc := Prod.snd) (R := fun v b => RelV b.1 v) p e0 (each_reads I hd e0) hal hk hz' un (fin its rv hz')
/-! on data -/
/-- they can be compared with one another -/
def sortable (ds : List D) : Bool := ds.all (fun d => ds.all fun e => PySem.W.alike (py d) (py e)) && okEs 20 ds && (ds.all (fun d => match d with | .tup (_ :: _) => true | _ => false) || ds.all fun d => match d with | .tup _ => false | .non => false | _ => true)
def dLe (x y : D) : Bool := PySem.W.dataLe false py x y
def sortD (ds : List D) : List D := ds.mergeSort dLe
def D.sorted : List D → Option D
  | [.lst ds] => if sortable ds = true then some (.lst (sortD ds)) else none
  | [.tup ds] => if sortable ds = true then some (.lst (sortD ds)) else none
  | _ => none
section
variable {g : Gx} {K : PySem.W.Frag} {ba : Mu} {B H : Hp}
theorem Dens.zip_den : ∀ {ds : List D} {vs : List V}, Dens K ba B ds vs → ∀ p ∈ vs.zip ds, Den K ba B p.2 p.1
  | [], _, h => by rw [dens_nil_inv h]; intro p hp; simp at hp
  | d :: ds, _, h => by
    obtain ⟨v, r, rfl, h1, h2⟩ := dens_cons_inv h
    intro p hp
    rcases List.mem_cons.mp hp with e | hp
    · rw [e]; exact h1
    · exact Dens.zip_den h2 p hp
theorem dens_map : ∀ {ps : List (V × D)}, (∀ p ∈ ps, Den K ba B p.2 p.1) → Dens K ba B (ps.map Prod.snd) (ps.map Prod.fst)
  | [], _ => dens_nil
  | p :: ps, h => dens_cons (h p List.mem_cons_self) (dens_map fun q hq => h q (List.mem_cons_of_mem _ hq))
theorem okEs_mem : ∀ {n : Nat} {ds : List D} {d : D}, okEs n ds = true → d ∈ ds → okE n d = true
  | n, [], d, _, h => by simp at h
  | n, e :: ds, d, o, h => by
    simp only [okEs, Bool.and_eq_true] at o
    rcases List.mem_cons.mp h with rfl | h
    · exact o.1
    · exact okEs_mem o.2 h
theorem sorted_core {bs : MS} {ds : List D} {a : Addr} {vs : List V} (hs : sortable ds = true) (e : Ex ba B H) (f : BagOff ba B) (bi : BagIs ba bs H) (ha : SqL K H a vs ∨ SqT K H a vs) (hd : Dens K ba B ds vs)
    (Q : VK) (q : ∀ v B' H', Step g ba B H B' H' → BagIs ba bs H' → Den K ba B' (.lst (sortD ds)) v → Q v H') : rSortD K [.ref a] H Q := by
  simp only [sortable, Bool.and_eq_true, Bool.or_eq_true] at hs
  obtain ⟨⟨h1, h2⟩, h3⟩ := hs
  rw [List.all_eq_true] at h1
  have hl := hd.length
  -- the pairs (value, datum)
  have mf : (vs.zip ds).map Prod.fst = vs := by rw [List.map_fst_zip (by omega)]
  have ms : (vs.zip ds).map Prod.snd = ds := by rw [List.map_snd_zip (by omega)]
  have zd := Dens.zip_den hd
  have mem2 : ∀ p ∈ vs.zip ds, p.2 ∈ ds := fun p hp => by rw [← ms]; exact List.mem_map_of_mem hp
  have m1 : ((vs.zip ds).map fun p => (p.1, py p.2)).map Prod.fst = vs := by rw [List.map_map, ← mf]; simp [Function.comp_def, mf]
  have m2 : ((vs.zip ds).map fun p => (p.1, py p.2)).map Prod.snd = ds.map py := by
    rw [List.map_map, ← ms, List.map_map, ms]
    rfl
  have srt : ((vs.zip ds).map fun p => (p.1, py p.2)).mergeSort (PySem.W.dataLe false Prod.snd) = ((vs.zip ds).mergeSort fun p q => dLe p.2 q.2).map fun p => (p.1, py p.2) := by
    rw [List.map_mergeSort (r := fun p q : V × D => dLe p.2 q.2) (s := PySem.W.dataLe false Prod.snd) (f := fun p : V × D => (p.1, py p.2))]
    intro x _ y _
    rfl
  have srt2 : ((vs.zip ds).mergeSort fun p q => dLe p.2 q.2).map Prod.snd = sortD ds := by
    unfold sortD
    rw [← ms, ← List.map_mergeSort (r := fun p q : V × D => dLe p.2 q.2) (s := dLe) (f := Prod.snd), ms]
    intro x _ y _
    rfl
  refine ⟨a, (vs.zip ds).map fun p => (p.1, py p.2), rfl, by rw [m1]; exact ha, fun b hb => ?_, ?_, ?_, fun b hb => ?_, fun p hp => ?_⟩
  · obtain ⟨p, hp, rfl⟩ := List.mem_map.mp hb
    exact (okE_py 20 p.2 p.1 (okEs_mem h2 (mem2 p hp)) (Den.mono e f _ _ (zd p hp))).1
  · rw [m2]
    intro d hd' d' hd''
    obtain ⟨x, hx, rfl⟩ := List.mem_map.mp hd'
    obtain ⟨y, hy, rfl⟩ := List.mem_map.mp hd''
    have := h1 x hx
    rw [List.all_eq_true] at this
    exact this y hy
  · rw [m2]
    rcases h3 with h3 | h3
    · refine .inl fun d hd' => ?_
      obtain ⟨x, hx, rfl⟩ := List.mem_map.mp hd'
      rw [List.all_eq_true] at h3
      have := h3 x hx
      cases x with
      | tup es =>
        cases es with
        | nil => cases this
        | cons y ys => exact ⟨py y, pys ys, by simp only [py, pys]⟩
      | _ => cases this
    · refine .inr fun d hd' => ?_
      obtain ⟨x, hx, rfl⟩ := List.mem_map.mp hd'
      rw [List.all_eq_true] at h3
      have h4 := h3 x hx
      have h5 := okEs_mem h2 hx
      cases x with
      | tup es => cases h4
      | non => cases h4
      | bag => simp [okE] at h5
      | obj v => simp [okE] at h5
      | scr v => simp [okE] at h5
      | fn v => simp [okE] at h5
      | card => simp [okE] at h5
      | crd v => simp [okE] at h5
      | _ => exact ⟨(fun z => by simp only [py] at z; cases z), (fun xs z => by simp only [py] at z; cases z)⟩
  · obtain ⟨p, hp, rfl⟩ := List.mem_map.mp hb
    exact (okE_py 20 p.2 p.1 (okEs_mem h2 (mem2 p hp)) (Den.mono e f _ _ (zd p hp))).2.2
  · rw [srt, List.map_map]
    have t : Step g ba B H (upd B p (.lst (((vs.zip ds).mergeSort fun p q => dLe p.2 q.2).map Prod.fst))) (upd H p (.lst (((vs.zip ds).mergeSort fun p q => dLe p.2 q.2).map Prod.fst))) := Step.new e hp
    have dn := dens_map (ps := (vs.zip ds).mergeSort fun p q => dLe p.2 q.2) (K := K) (ba := ba) (B := B) fun q hq => zd q ((List.mergeSort_perm _ _).mem_iff.mp hq)
    rw [srt2] at dn
    exact q _ _ _ t (bi.new hp) (den_lst' upd_same (Dens.mono t.bb f _ _ dn))
theorem cd_sorted : CallD g K (rSortD K) D.sorted := by
  intro ba B H bs xs z vs hz e f bi dx Q q
  unfold D.sorted at hz
  split at hz
  · rename_i ds
    obtain ⟨h1, rfl⟩ := of_ite hz
    obtain ⟨v, rfl, d⟩ := denTs_one dx
    obtain ⟨a, ws, rfl, ha, hd⟩ := d.lst e f
    exact sorted_core h1 e f bi (.inl (SqL.of ha)) hd Q q
  · rename_i ds
    obtain ⟨h1, rfl⟩ := of_ite hz
    obtain ⟨v, rfl, d⟩ := denTs_one dx
    obtain ⟨a, ws, rfl, ha, hd⟩ := d.tup e f
    exact sorted_core h1 e f bi (.inr ha) hd Q q
  · cases hz
end
end DL

set_option Elab.async false
set_option linter.all false
set_option maxRecDepth 100000
set_option maxHeartbeats 400000
/-! zip over two lists, tuples or texts in any mix. -/
namespace DL
open PySem PySem.Spec PyProof.Rows L2
/-- what is walked by a zip -/
inductive Zv where
  | lst (a : Addr) | tup (a : Addr) | txt (x : Str)
namespace Zv
def v : Zv → V
  | .lst a => .ref a
  | .tup a => .ref a
  | .txt x => .str x
def rd (K : PySem.W.Frag) (H : Hp) : Zv → List V → Prop
  | .lst a, vs => SqL K H a vs
  | .tup a, vs => SqT K H a vs
  | .txt x, vs => vs = x.cps.toList.map fun c => V.str ⟨#[c]⟩
def fp (I : Addr) : Zv → List Addr
  | .lst a => [I, a]
  | .tup a => [I, a]
  | .txt _ => [I]
/-- its iterator at I, at turn i -/
def st (I : Addr) : Zv → Nat → Heap → Prop
  | .lst a, i, h => h.IsListIter I a i
  | .tup a, i, h => h.IsTupleIter I a i
  | .txt x, i, h => ∃ t, h.IsStrIter I (strIterType x) x t i
theorem st_obj {I : Addr} {s : Zv} {i : Nat} {h : Heap} (q : s.st I i h) : ∃ o, h.get? I = some o ∧ ∀ u, o.data ≠ .cell u := by
  cases s with
  | lst a => obtain ⟨o, e, c, d⟩ := q; exact ⟨o, e, fun u z => by rw [d] at z; cases z⟩
  | tup a => obtain ⟨o, e, c, d⟩ := q; exact ⟨o, e, fun u z => by rw [d] at z; cases z⟩
  | txt x => obtain ⟨t, o, e, c, d⟩ := q; exact ⟨o, e, fun u z => by rw [d] at z; cases z⟩
theorem st_at {I : Addr} {s : Zv} {i : Nat} {h h' : Heap} (q : s.st I i h) (k : ∀ o, h.get? I = some o → h'.get? I = some o) : s.st I i h' := by
  cases s with
  | lst a => exact Heap.IsListIter.at q k
  | tup a => exact Heap.IsTupleIter.at q k
  | txt x => obtain ⟨t, o, e, c, d⟩ := q; exact ⟨t, o, k o e, c, d⟩
end Zv
section
variable {X : Cx} {pins : List (Addr × Obj)} {σ : L2.St} {H : Hp} {s : Shared}
theorem Zv.inj {z : Zv} {xs ys : List V} (I : Inv X pins σ H s) (h1 : z.rd X.K H xs) (h2 : z.rd X.K H ys) : xs = ys := by
  cases z with
  | lst a => exact I.list_inj h1 h2
  | tup a => exact I.tuple_inj h1 h2
  | txt x =>
    have e1 : xs = _ := h1
    have e2 : ys = _ := h2
    rw [e1, e2]
/-- its draws, read off the heap -/
theorem Zv.draws {z : Zv} {xs : List V} {J : Addr} {i : Nat} {A : Around} (I : Inv X pins σ H s) (hh : A.handled = none) (h : z.rd X.K H xs) (q : z.st J i s.heap) :
    ∃ (P : Nat → Value → Prop) (St : Nat → Heap → Prop), Draws X.prog X.w A J (z.fp J) xs.length P St ∧ St i s.heap ∧ (∀ j h, St j h → z.st J j h) ∧ ∀ j u, P j u → ∃ x, xs[j]? = some x ∧ RelV x u := by
  cases z with
  | lst a =>
    obtain ⟨its, rv, p, _⟩ := I.list h
    have na : a ≠ J := fun e => by
      obtain ⟨o, n, ho, hc, _⟩ := id p
      obtain ⟨o', e', c', _⟩ := id q
      rw [e, e'] at ho
      cases ho
      rw [c'] at hc
      exact absurd hc (by decide)
    have hl := rv.length
    have D := Draws.list (prog := X.prog) (w := X.w) hh J a na its.toArray
    rw [List.size_toArray, ← hl] at D
    refine ⟨_, _, D, ⟨q, p.isList⟩, fun j h st => st.1, fun j u hu => ?_⟩
    have hu' : its[j]? = some u := by simpa using hu
    obtain ⟨hj, he⟩ := List.getElem?_eq_some_iff.mp hu'
    have hj' : j < xs.length := by omega
    obtain ⟨w, h1, h2⟩ := rv.get (List.getElem?_eq_getElem hj')
    rw [hu'] at h1
    cases h1
    exact ⟨xs[j], List.getElem?_eq_getElem hj', h2⟩
  | tup a =>
    obtain ⟨its, rv, p, _⟩ := I.tuple h
    have na : a ≠ J := fun e => by
      obtain ⟨o, ho, hc, _⟩ := id p
      obtain ⟨o', e', c', _⟩ := id q
      rw [e, e'] at ho
      cases ho
      rw [c'] at hc
      exact absurd hc (by decide)
    have hl := rv.length
    have D := Draws.tuple (prog := X.prog) (w := X.w) hh J a na its.toArray
    rw [List.size_toArray, ← hl] at D
    refine ⟨_, _, D, ⟨q, (show s.heap.IsTuple a its.toArray from p)⟩, fun j h st => st.1, fun j u hu => ?_⟩
    have hu' : its[j]? = some u := by simpa using hu
    obtain ⟨hj, he⟩ := List.getElem?_eq_some_iff.mp hu'
    have hj' : j < xs.length := by omega
    obtain ⟨w, h1, h2⟩ := rv.get (List.getElem?_eq_getElem hj')
    rw [hu'] at h1
    cases h1
    exact ⟨xs[j], List.getElem?_eq_getElem hj', h2⟩
  | txt x =>
    obtain ⟨t, q⟩ := q
    have e : xs = x.cps.toList.map fun c => V.str ⟨#[c]⟩ := h
    have el : xs.length = x.cps.size := by rw [e]; simp
    have D := Draws.text (prog := X.prog) (w := X.w) hh J x t
    rw [← el] at D
    refine ⟨_, _, D, q, fun j h st => ⟨t, st⟩, fun j u hu => ?_⟩
    obtain ⟨c, tk, hc, rfl⟩ := hu
    refine ⟨.str ⟨#[c]⟩, ?_, ⟨tk, rfl⟩⟩
    rw [e, List.getElem?_map, Array.getElem?_toList, hc]
    rfl
end
/-- the two at turn i, in a new pair -/
def ItzA (K : PySem.W.Frag) (z1 z2 : Zv) : It :=
  ⟨fun i H => ∃ xs ys : List V, z1.rd K H xs ∧ z2.rd K H ys ∧ i < xs.length ∧ i < ys.length,
    fun i H v H' => ∃ T x y, v = .ref T ∧ H T = none ∧ H' = upd H T (.tup [x, y]) ∧ (∀ xs, z1.rd K H xs → xs[i]? = some x) ∧ ∀ ys, z2.rd K H ys → ys[i]? = some y,
    fun i H => ∃ xs ys : List V, z1.rd K H xs ∧ z2.rd K H ys ∧ i ≤ xs.length ∧ i ≤ ys.length ∧ (i = xs.length ∨ i = ys.length)⟩
theorem turn_zipA {P : Program} {w : World} {K : PySem.W.Frag} {elts : List Expr} {kk : Nat} {tpos : Pos} {z1 z2 : Zv} {z TI TO i1 i2 : Addr} (S : ZipSep2 z TI TO i1 i2 (z1.fp i1) (z2.fp i2)) :
    Turn P w K (.Tuple elts kk tpos) (ItzA K z1 z2) [z, TI, TO, i1, i2] z (fun i h => IsZip h z TI TO .none ∧ IsTupOf2 h TI (.ref i1) (.ref i2) ∧ (∃ x y, IsTupOf2 h TO x y) ∧ z1.st i1 i h ∧ z2.st i2 i h) where
  mem := by simp
  obj := fun i h st c hc => by
    obtain ⟨hz, hTI, ⟨x, y, hTO⟩, h1, h2⟩ := st
    obtain ⟨o1, e1, d1⟩ := Zv.st_obj h1
    obtain ⟨o2, e2, d2⟩ := Zv.st_obj h2
    have e' : c = z ∨ c = TI ∨ c = TO ∨ c = i1 ∨ c = i2 := by simpa using hc
    rcases e' with q | q | q | q | q
    · rw [q]; exact ⟨_, hz, fun v q => nomatch q⟩
    · rw [q]; exact ⟨_, hTI, fun v q => nomatch q⟩
    · rw [q]; exact ⟨_, hTO, fun v q => nomatch q⟩
    · rw [q]; exact ⟨o1, e1, d1⟩
    · rw [q]; exact ⟨o2, e2, d2⟩
  keep := fun i h h' st k => by
    obtain ⟨hz, hTI, ⟨x, y, hTO⟩, h1, h2⟩ := st
    exact ⟨k z (by simp) _ hz, k TI (by simp) _ hTI, ⟨x, y, k TO (by simp) _ hTO⟩, Zv.st_at h1 fun o q => k i1 (by simp) o q, Zv.st_at h2 fun o q => k i2 (by simp) o q⟩
  item := by
    intro X hP hw hK hc i pins s σ H E I hf st hg
    subst hP hw hK
    obtain ⟨hz, hTI, ⟨x0, y0, hTO⟩, h1, h2⟩ := st
    obtain ⟨xs, ys, hqx, hqy, hx, hy⟩ := hg
    have hh : X.A.in1.handled = none := I.ok.hd hc
    obtain ⟨P1, St1, D1, q1, b1, r1⟩ := Zv.draws (A := X.A.in1) I hh hqx h1
    obtain ⟨P2, St2, D2, q2, b2, r2⟩ := Zv.draws (A := X.A.in1) I hh hqy h2
    have hzl : z < s.heap.objs.size := Heap.lt_size hz
    refine wpAny_pyNext_zipD2_item S D1 D2 hz hTI hTO q1 q2 hx hy fun u u2 h' tk p1 p2 z' TO' s1' s2' hT hsz hk => ?_
    obtain ⟨x, hxi, rx⟩ := r1 i u p1
    obtain ⟨y, hyi, ry⟩ := r2 i u2 p2
    have h1' := b1 _ _ s1'
    have h2' := b2 _ _ s2'
    refine ⟨_, rfl, wpAny_letOwnedTupleGo_zip (s := { s with heap := h', toks := tk }) z' fun h'' z'' sb => ?_⟩
    have hT2 : h''.get? s.heap.objs.size = some { cls := .type "tuple", data := .seq #[u, u2] } := (sb.2 _ (Nat.ne_of_gt hzl)).trans hT
    have new : ObjOk X.prog X.w (upd H s.heap.objs.size (.tup [x, y])) h'' s.heap.objs.size (.tup [x, y]) :=
      ⟨by show 2 ≤ sizeLine; decide, [u, u2], .cons rx (.cons ry .nil), ⟨_, hT2, rfl, _, rfl⟩⟩
    have I1 : Inv X pins σ (upd H s.heap.objs.size (.tup [x, y])) { s with heap := h'', toks := tk } :=
      I.turnedNew (t' := tk) (ch := [z, TI, TO, i1, i2]) (fun c o hb q => (sb.2 c (fun e => hb (by simp [e]))).trans (hk c o (fun e => hb (by simp [e])) (fun e => hb (by simp [e])) (fun e => hb (by simp [e])) (fun e => hb (by simp [e])) q)) hf (Nat.le_refl _) new
    refine ⟨.ref s.heap.objs.size, _, I1, rfl, ⟨_, x, y, rfl, I.hok.fresh (Nat.le_refl _), rfl, fun l hl => by rw [Zv.inj I hl hqx]; exact hxi, fun l hl => by rw [Zv.inj I hl hqy]; exact hyi⟩, ⟨z'', ?_, ⟨u, u2, ?_⟩, ?_, ?_⟩, fun c hcm => ?_⟩
    · exact (sb.2 _ S.TIz).trans (hk _ _ S.TIz S.TITO S.TIi1 S.TIi2 hTI)
    · exact (sb.2 _ S.TOz).trans TO'
    · exact Zv.st_at h1' fun o q => (sb.2 _ S.zi1.symm).trans q
    · exact Zv.st_at h2' fun o q => (sb.2 _ S.zi2.symm).trans q
    · have hlt : c < s.heap.objs.size := by
        obtain ⟨o1, e1, _⟩ := Zv.st_obj h1
        obtain ⟨o2, e2, _⟩ := Zv.st_obj h2
        have e' : c = z ∨ c = TI ∨ c = TO ∨ c = i1 ∨ c = i2 := by simpa using hcm
        rcases e' with q | q | q | q | q
        · rw [q]; exact hzl
        · rw [q]; exact Heap.lt_size hTI
        · rw [q]; exact Heap.lt_size hTO
        · rw [q]; exact Heap.lt_size e1
        · rw [q]; exact Heap.lt_size e2
      rw [upd_ne (Nat.ne_of_lt hlt)]
      exact (hf c hcm).1
  done := by
    intro X hP hw hK hc i pins s σ H E I hf st hg
    subst hP hw hK
    obtain ⟨hz, hTI, ⟨x0, y0, hTO⟩, h1, h2⟩ := st
    obtain ⟨xs, ys, hqx, hqy, hx, hy, hend⟩ := hg
    have hh : X.A.in1.handled = none := I.ok.hd hc
    obtain ⟨P1, St1, D1, q1, b1, r1⟩ := Zv.draws (A := X.A.in1) I hh hqx h1
    obtain ⟨P2, St2, D2, q2, b2, r2⟩ := Zv.draws (A := X.A.in1) I hh hqy h2
    exact wpAny_pyNext_zipD2_end S D1 D2 hz hTI hTO q1 q2 hx hy hend fun h' tk hk => ⟨rfl, I.turnedL (t' := tk) (ch := [z, TI, TO, i1, i2]) (fun c o hb q =>
      hk c o (fun e => hb (by simp [e])) (fun e => hb (by simp [e])) (fun e => hb (by simp [e])) (fun e => hb (by simp [e])) q) hf⟩
  self := fun A i s Q E st h => wpAny_pyIter_zip st.1 h
theorem walk_zipA {K : PySem.W.Frag} {z1 z2 : Zv} {xs ys : List V} {n : Nat} (hn : n = min xs.length ys.length) : Walk (ItzA K z1 z2) n (fun H => z1.rd K H xs ∧ z2.rd K H ys) (YPair (fun i => xs[i]?) (fun i => ys[i]?)) := by
  subst hn
  refine ⟨fun i _ hi q => ⟨xs, ys, q.1, q.2, by omega, by omega⟩, fun _ q => ⟨xs, ys, q.1, q.2, by omega, by omega, by omega⟩, fun i H v H' _ q y => ?_⟩
  obtain ⟨T, x, z, h1, h2, h3, h4, h5⟩ := y
  exact ⟨T, x, z, h1, h2, h3, h4 xs q.1, h5 ys q.2⟩
def iZipA (K : PySem.W.Frag) (ta : TA) : TI := fun σ H R => ta σ H fun vs H1 => ∃ (z1 z2 : Zv) (xs ys : List V), vs = [z1.v, z2.v] ∧ z1.rd K H1 xs ∧ z2.rd K H1 ys ∧ R (ItzA K z1 z2) H1
/-- how its iterator begins -/
theorem Zv.begins {X : Cx} {pins : List (Addr × Obj)} {σ : L2.St} {H : Hp} {s : Shared} {z : Zv} {xs : List V} {u : Value} (I : Inv X pins σ H s) (h : z.rd X.K H xs) (r : RelV z.v u) :
    ∃ (o : Obj) (Hc : Heap → Prop), Begins u o Hc ∧ Hc s.heap ∧ (∀ (J : Addr) (h : Heap), h.get? J = some o → z.st J 0 h) ∧ (∀ J, ∃ r, z.fp J = J :: r ∧ ∀ b ∈ r, b < s.heap.objs.size) := by
  cases z with
  | lst a =>
    cases (show u = Value.ref a from r)
    obtain ⟨its, rv, p, _⟩ := I.list h
    exact ⟨_, _, begins_list a its.toArray, p.isList, fun J h e => ⟨_, e, rfl, rfl⟩, fun J => ⟨[a], rfl, fun b hb => by rw [List.mem_singleton.mp hb]; exact p.lt⟩⟩
  | tup a =>
    cases (show u = Value.ref a from r)
    obtain ⟨its, rv, p, _⟩ := I.tuple h
    exact ⟨_, _, begins_tuple a its.toArray, (show s.heap.IsTuple a its.toArray from p), fun J h e => ⟨_, e, rfl, rfl⟩, fun J => ⟨[a], rfl, fun b hb => by rw [List.mem_singleton.mp hb]; exact p.lt⟩⟩
  | txt x =>
    obtain ⟨t, rfl⟩ := (show ∃ t, u = Value.str x t from r)
    exact ⟨_, _, begins_text x t, True.intro, fun J h e => ⟨t, _, e, rfl, rfl⟩, fun J => ⟨[], rfl, fun b hb => by simp at hb⟩⟩
theorem pi_zipG {X : Cx} {e e2 : Expr} {ta : TA} {p pos tpos : Pos} {elts : List Expr} {kk : Nat} (hg : Gl X "zip") (hm : X.mg "zip" = none) (ha : PA X [e, e2] ta)
    (hs : starEach [e, e2] X.env = (false, eval e X.env) :: starEach [e2] X.env := by rfl) (hpl : (backTo pos (starEach [e2] X.env)).any (·.1) = false := by rfl) :
    PI X (.Tuple elts kk tpos) (.Call (.Name "zip" p) [e, e2] [] pos) (iZipA X.K ta) := by
  refine ⟨fun pins s σ H R I h => ?_⟩
  refine Call_ (ld_blt I hg hm PyProof.Rows.boot_zip (PyProof.Rows.callWith_type1 (thn (ha.run pos pins s σ H _ I h) fun us s1 ⟨vs, H1, I1, r1, q1⟩ => ?_) hs hpl))
  obtain ⟨z1, z2, xs, ys, ex, hqx, hqy, q⟩ := q1
  subst ex
  cases r1 with
  | cons r rr =>
    cases rr with
    | cons r' rr =>
      cases rr
      obtain ⟨o1, Hc1, B1, c1, n1, f1⟩ := Zv.begins I1 hqx r
      obtain ⟨o2, Hc2, B2, c2, n2, f2⟩ := Zv.begins I1 hqy r'
      refine zip_begins2 B1 B2 c1 c2 fun h' hz hTI hTO h1 h2 hsz hk => wpAny_pyIter_zip hz ?_
      have I2 : Inv X pins σ H1 { s1 with heap := h' } := I1.kept (t' := s1.toks) hk
      obtain ⟨w1, g1, l1⟩ := f1 s1.heap.objs.size
      obtain ⟨w2, g2, l2⟩ := f2 (s1.heap.objs.size + 1)
      have S : ZipSep2 (s1.heap.objs.size + 4) (s1.heap.objs.size + 2) (s1.heap.objs.size + 3) s1.heap.objs.size (s1.heap.objs.size + 1) (z1.fp s1.heap.objs.size) (z2.fp (s1.heap.objs.size + 1)) := by
        rw [g1, g2]
        exact zip_sep2 l1 l2
      refine ⟨s1.heap.objs.size + 4, [s1.heap.objs.size + 4, s1.heap.objs.size + 2, s1.heap.objs.size + 3, s1.heap.objs.size, s1.heap.objs.size + 1], _, _, H1, rfl, I2, turn_zipA S, ⟨hz, hTI, ⟨_, _, hTO⟩, n1 _ _ h1, n2 _ _ h2⟩, fun c hcm => ?_, q⟩
      have e' : c = s1.heap.objs.size + 4 ∨ c = s1.heap.objs.size + 2 ∨ c = s1.heap.objs.size + 3 ∨ c = s1.heap.objs.size ∨ c = s1.heap.objs.size + 1 := by simpa using hcm
      have hle : s1.heap.objs.size ≤ c := by
        rcases e' with z | z | z | z | z <;> rw [z]
        · exact Nat.le_add_right _ _
        · exact Nat.le_add_right _ _
        · exact Nat.le_add_right _ _
        · exact Nat.le_refl _
        · exact Nat.le_add_right _ _
      exact I1.fpOk hle (I1.hok.fresh hle)
/-! on data -/
def itemsD : D → Option (List D)
  | .lst ds => some ds
  | .tup ds => some ds
  | .str z => some (sgnL z)
  | _ => none
def zipK : List D → M (List D)
  | [x, y] => match itemsD x, itemsD y with
    | some xs, some ys => M.ret (List.zipWith (fun a b => D.tup [a, b]) xs ys)
    | _, _ => stuck
  | _ => stuck
theorem zipK_inv {xs : List D} {bs : MS} (h : zipK xs bs ≠ none) : ∃ x y ds es, xs = [x, y] ∧ itemsD x = some ds ∧ itemsD y = some es ∧ zipK xs bs = some (.ok (List.zipWith (fun a b => D.tup [a, b]) ds es), bs) := by
  unfold zipK at h ⊢
  split at h
  · rename_i x y
    cases q1 : itemsD x with
    | none => rw [q1] at h; exact absurd rfl h
    | some ds =>
      cases q2 : itemsD y with
      | none => rw [q1, q2] at h; exact absurd rfl h
      | some es => exact ⟨x, y, ds, es, rfl, q1, q2, rfl⟩
  · exact absurd rfl h
theorem zv_of {K : PySem.W.Frag} {ba : Mu} {B : Hp} {x : D} {ds : List D} {v : V} (f : BagOff ba B) (h : Den K ba B x v) (hi : itemsD x = some ds) :
    ∃ (z : Zv) (vs : List V), v = z.v ∧ vs.length = ds.length ∧ (∀ B2 H2, Ex ba B B2 → Ex ba B2 H2 → BagOff ba B2 → z.rd K H2 vs) ∧ ∀ (i : Nat) w, vs[i]? = some w → ∃ d, ds[i]? = some d ∧ Den K ba B d w := by
  have getd : ∀ {es : List D} {vs : List V}, Dens K ba B es vs → ∀ (i : Nat) w, vs[i]? = some w → ∃ d, es[i]? = some d ∧ Den K ba B d w := fun {es vs} hd i w hw => by
    have hl := hd.length
    obtain ⟨h1, h2⟩ := List.getElem?_eq_some_iff.mp hw
    have hlt : i < es.length := by omega
    obtain ⟨u, e1, e2⟩ := hd.get (List.getElem?_eq_getElem hlt)
    rw [hw] at e1
    cases e1
    exact ⟨es[i], List.getElem?_eq_getElem hlt, e2⟩
  cases x with
  | lst es =>
    cases hi
    obtain ⟨a, vs, rfl, ha, hd⟩ := den_lst h
    exact ⟨.lst a, vs, rfl, hd.length, fun B2 H2 e1 e2 f2 => SqL.of (lst_ex e2 f2 (lst_ex e1 f ha)), getd hd⟩
  | tup es =>
    cases hi
    obtain ⟨a, vs, rfl, ha, hd⟩ := den_tup h
    exact ⟨.tup a, vs, rfl, hd.length, fun B2 H2 e1 e2 f2 => sqT_ex e2 f2 (sqT_ex e1 f ha), getd hd⟩
  | str z =>
    cases hi
    refine ⟨.txt z, z.cps.toList.map fun c => V.str ⟨#[c]⟩, den_str h, by simp [sgnL], fun _ _ _ _ _ => rfl, fun i w hw => ?_⟩
    rw [List.getElem?_map] at hw
    obtain ⟨c, h1, rfl⟩ := Option.map_eq_some_iff.mp hw
    refine ⟨.str ⟨#[c]⟩, ?_, den_str'⟩
    unfold sgnL
    rw [List.getElem?_map, h1]
    rfl
  | _ => cases hi
section
variable {g : Gx} {E : XK} {X : Cx}
theorem pi_zip2 {e e2 : Expr} {ta : TA} {m : Ga → M (List D)} {p pos tpos : Pos} {elts : List Expr} {kk : Nat} (hm : X.mg "zip" = none) (h : PDA g E X [e, e2] ta m) (hg : Gl X "zip" := by rfl)
    (hs : starEach [e, e2] X.env = (false, eval e X.env) :: starEach [e2] X.env := by rfl) (hpl : (backTo pos (starEach [e2] X.env)).any (·.1) = false := by rfl) :
    PDI g E X (.Tuple elts kk tpos) (.Call (.Name "zip" p) [e, e2] [] pos) (iZipA X.K ta) (fun Γ => M.bnd (m Γ) zipK) := by
  refine ⟨pi_zipG hg hm h.pe hs hpl, fun ba B0 H0 σ Γ bs B H s R hn h1 h2 => ?_⟩
  refine (h.de ba B0 H0 σ Γ bs B H s).bnd (f := zipK) hn h2 fun x b1 e1 e1' n1 v B1 H1 t1 i1 d1 x1 => ?_
  have s1 := s.step t1 i1
  obtain ⟨x, y, ds, es, rfl, hx, hy, e2⟩ := zipK_inv n1
  obtain ⟨w, r, rfl, hw, hr⟩ := dens_cons_inv d1
  obtain ⟨w2, r2, rfl, hw2, hr2⟩ := dens_cons_inv hr
  obtain ⟨z1, vs1, rfl, l1, rd1, g1⟩ := zv_of s1.off hw hx
  obtain ⟨z2, vs2, rfl, l2, rd2, g2⟩ := zv_of s1.off hw2 hy
  rw [dens_nil_inv hr2]
  refine ⟨z1, z2, vs1, vs2, rfl, rd1 B1 H1 (Ex.refl _) s1.sub s1.off, rd2 B1 H1 (Ex.refl _) s1.sub s1.off, h1 _ b1 (e1'.trans e2) (ItzA X.K z1 z2) B1 H1 t1 i1 ?_⟩
  refine ⟨min vs1.length vs2.length, _, _, walk_zipA rfl, by rw [List.length_zipWith, l1, l2], fun B2 H2 e1 e2 f2 => ⟨rd1 B2 H2 e1 e2 f2, rd2 B2 H2 e1 e2 f2⟩, fun i B2 H2 bs' q H3 hi e1 e2 f2 bi yy => ?_⟩
  obtain ⟨T, u, u2, rfl, hT, rfl, hu, hu2⟩ := yy
  obtain ⟨d, hd, dd⟩ := g1 i u hu
  obtain ⟨d2, hd2, dd2⟩ := g2 i u2 hu2
  have t3 : Step g ba B2 H2 (upd B2 T (.tup [u, u2])) (upd H2 T (.tup [u, u2])) := Step.new e2 hT
  refine ⟨_, .tup [d, d2], ?_, t3, bi.new hT, den_tup' (SqT.of upd_same) (dens_cons (Den.mono (e1.trans t3.bb) s1.off _ _ dd) (dens_cons (Den.mono (e1.trans t3.bb) s1.off _ _ dd2) dens_nil))⟩
  rw [List.getElem?_zipWith, hd, hd2]
end
end DL

set_option Elab.async false
set_option linter.all false
set_option maxRecDepth 100000
set_option maxHeartbeats 400000
/-! Comprehensions in the text, chains, pairs, globals, raise; the defs by names. -/
namespace DL
open PySem PySem.Spec PyProof.Rows L2
theorem hu65 {k : Nat} {A : Around} (r : Room k A) : A.units + 65 < cLine := by have := r.un; omega
section
variable {g : Gx} {E : XK} {X : Cx}
/-! ### comprehensions -/
structure PDTs (g : Gx) (E : XK) (X : Cx) (ifs : List Expr) (t : TT) (m : Ga → M Bool) : Prop where
  pe : PTs X ifs t
  de : DG g X.K E RE t m
theorem pdts_n : PDTs g E X [] tYes (fun _ => M.ret true) := ⟨pts_nil, fun ba B0 H0 σ Γ bs B H s Q hn h1 h2 => h1 true bs rfl true B H (Step.refl s.sub) s.bag rfl⟩
theorem pdts_1 {c : Expr} {t : TT} {m : Ga → M Bool} (h : PDT g E X c t m) : PDTs g E X [c] t m := ⟨pts_one h.pe, h.de⟩
abbrev bk (X : Cx) (scope : Scope) (s : Shared) (H : Hp) (C : Addr) (cl : List (Str × Addr)) (fp : List Addr) : Cx := X.blk s H scope (compEnvC scope cl C X.env) fp
/-! readings that the block's context bears, made one -/
abbrev Bp := Shared × Hp × Addr × List (Str × Addr) × List Addr
abbrev bkp (X : Cx) (scope : Scope) (p : Bp) : Cx := bk X scope p.1 p.2.1 p.2.2.1 p.2.2.2.1 p.2.2.2.2
def p0 (X : Cx) : Bp := (X.s_0, X.H_0, 0, [], [])
def HE (g : Gx) (X : Cx) (scope : Scope) (e : Expr) (m : Ga → M D) : Prop := ∀ s H C cl fp, ∃ te, PD g E0 (bk X scope s H C cl fp) e te m
def HT' (g : Gx) (X : Cx) (scope : Scope) (ifs : List Expr) (m : Ga → M Bool) : Prop := ∀ s H C cl fp, ∃ t, PDTs g E0 (bk X scope s H C cl fp) ifs t m
def HG (g : Gx) (X : Cx) (scope : Scope) (tg : Expr) (vs : List Nat) (st : D → Ga → Option Ga) : Prop := ∀ s H C cl fp, ∃ t, PDG g (bk X scope s H C cl fp) tg t st ∧ Own vs t ∧ MonoG t
section
variable {scope : Scope} {e tg : Expr} {ifs : List Expr} {vs : List Nat} {m : Ga → M D} {mt : Ga → M Bool} {st : D → Ga → Option Ga}
theorem HE.at_ (h : HE g X scope e m) (p : Bp) : ∃ te, PD g E0 (bkp X scope p) e te m := h _ _ _ _ _
theorem HT'.at_ (h : HT' g X scope ifs mt) (p : Bp) : ∃ te, PDTs g E0 (bkp X scope p) ifs te mt := h _ _ _ _ _
theorem HG.at_ (h : HG g X scope tg vs st) (p : Bp) : ∃ t, PDG g (bkp X scope p) tg t st ∧ Own vs t ∧ MonoG t := h _ _ _ _ _
noncomputable def teU (h : HE g X scope e m) : TE := fun σ H Q => ∀ p : Bp, Classical.choose (h.at_ p) σ H Q
noncomputable def ttU (h : HT' g X scope ifs mt) : TT := fun σ H Q => ∀ p : Bp, Classical.choose (h.at_ p) σ H Q
noncomputable def tgU (h : HG g X scope tg vs st) : TG := fun v σ H Q => ∀ p : Bp, Classical.choose (h.at_ p) v σ H Q
theorem HE.pe (h : HE g X scope e m) (p : Bp) : PE (bkp X scope p) e (teU h) := ⟨fun pins s σ H Q I q => (Classical.choose_spec (h.at_ p)).pe.run pins s σ H Q I (q p)⟩
theorem HE.de (h : HE g X scope e m) : DG g X.K E0 (RD X.K) (teU h) m := fun ba B0 H0 σ Γ bs B H s Q hn h1 h2 p => (Classical.choose_spec (h.at_ p)).de ba B0 H0 σ Γ bs B H s Q hn h1 h2
theorem HT'.pe (h : HT' g X scope ifs mt) (p : Bp) : PTs (bkp X scope p) ifs (ttU h) := ⟨fun pins s σ H Q I q => (Classical.choose_spec (h.at_ p)).pe.run pins s σ H Q I (q p)⟩
theorem HT'.de (h : HT' g X scope ifs mt) : DG g X.K E0 RE (ttU h) mt := fun ba B0 H0 σ Γ bs B H s Q hn h1 h2 p => (Classical.choose_spec (h.at_ p)).de ba B0 H0 σ Γ bs B H s Q hn h1 h2
theorem HG.pe (h : HG g X scope tg vs st) (p : Bp) : PG (bkp X scope p) tg (tgU h) := ⟨fun pins s σ H v u Q I r q => (Classical.choose_spec (h.at_ p)).1.pe.run pins s σ H v u Q I r (q p)⟩
theorem HG.de (h : HG g X scope tg vs st) : DT g X.K (tgU h) st := fun ba B0 H0 σ Γ bs B H x v Γ' Q s d e q p => (Classical.choose_spec (h.at_ p)).1.de ba B0 H0 σ Γ bs B H x v Γ' Q s d e q
theorem HG.own (h : HG g X scope tg vs st) : Own vs (tgU h) := fun v σ H Q q p => (Classical.choose_spec (h.at_ p)).2.1 v σ H Q (q p)
theorem HG.mono (h : HG g X scope tg vs st) : MonoG (tgU h) := fun v σ H Q Q' k q p => (Classical.choose_spec (h.at_ p)).2.2 v σ H Q Q' k (q p)
end
variable {tu : TG} {ttu : TT} {teu : TE} {elt tg iter : Expr} {ifs : List Expr} {scope : Scope} {own : List (Str × Nat)} {wi : TI} {mi : Ga → M (List D)} {st : D → Ga → Option Ga} {mt : Ga → M Bool} {me : Ga → M D}
theorem pn_lc {pos : Pos} (hc : X.calm = true) (hN : X.N.Nodup) (hi : PDI g E X tg iter wi mi) (ok : BlkOk X.N X.env.scope scope own)
    (hg : HG g X scope tg (own.map (·.2)) st) (ht : HT' g X scope ifs mt) (he : HE g X scope elt me) (hs : ∀ x, foldedSetIterable iter X.env x = pure x := by intro _; rfl) (e1 : tu = tgU hg := by rfl) (e2 : ttu = ttU ht := by rfl) (e3 : teu = teU he := by rfl) :
    PN g E X (.ListComp elt [⟨tg, iter, ifs, 0⟩] scope pos) (tLc wi tu ttu teu (own.map (·.2))) (compM (own.map (·.2)) mi st mt me) := by
  subst e1 e2 e3
  exact ⟨pe_lc hc hN hi.pe ok (fun s H C cl fp => hg.pe (s, H, C, cl, fp)) (fun s H C cl fp => ht.pe (s, H, C, cl, fp)) (fun s H C cl fp => he.pe (s, H, C, cl, fp)) hs,
    dn_lc hi.de hg.de hg.own hg.mono ht.de he.de⟩
theorem PN.pd {e : Expr} {te : TE} {m : Ga → M (List D)} (h : PN g E X e te m) : PD g E X e te (lstOf m) := ⟨h.pe, dg_fresh h.de⟩
theorem ps_lc {i : Nat} {y : Str} {py pos spos : Pos}
    (hc : X.calm = true) (hN : X.N.Nodup) (hy : X.N[i]? = some y) (hyl : X.env.scope.names.lookup y = some .local) (hsw : swapsWith (.ListComp elt [⟨tg, iter, ifs, 0⟩] scope pos) (some (.Name y py)) spos.line X.env = pure true)
    (hi : PDI g E X tg iter wi mi) (ok : BlkOk X.N X.env.scope scope own)
    (hg : HG g X scope tg (own.map (·.2)) st) (ht : HT' g X scope ifs mt) (he : HE g X scope elt me) (hs : ∀ x, foldedSetIterable iter X.env x = pure x := by intro _; rfl) (e1 : tu = tgU hg := by rfl) (e2 : ttu = ttU ht := by rfl) (e3 : teu = teU he := by rfl) :
    PS X (.Assign [.Name y py] (.ListComp elt [⟨tg, iter, ifs, 0⟩] scope pos) spos) (tAsg (tLc wi tu ttu teu (own.map (·.2))) (gName i)) := by
  subst e1 e2 e3
  exact ps_setLc hc hN hy hyl hsw hi.pe ok (fun s H C cl fp => hg.pe (s, H, C, cl, fp)) (fun s H C cl fp => ht.pe (s, H, C, cl, fp)) (fun s H C cl fp => he.pe (s, H, C, cl, fp)) hs
/-- name = [..], the list the slot's own -/
theorem pds_lcO {i : Nat} {y : Str} {py pos spos : Pos}
    (hc : X.calm = true) (hN : X.N.Nodup) (hy : X.N[i]? = some y) (hyl : X.env.scope.names.lookup y = some .local) (hsw : swapsWith (.ListComp elt [⟨tg, iter, ifs, 0⟩] scope pos) (some (.Name y py)) spos.line X.env = pure true)
    (hi : PDI g E X tg iter wi mi) (ok : BlkOk X.N X.env.scope scope own)
    (hg : HG g X scope tg (own.map (·.2)) st) (ht : HT' g X scope ifs mt) (he : HE g X scope elt me) (hs : ∀ x, foldedSetIterable iter X.env x = pure x := by intro _; rfl) (e1 : tu = tgU hg := by rfl) (e2 : ttu = ttU ht := by rfl) (e3 : teu = teU he := by rfl) :
    PDS g E X (.Assign [.Name y py] (.ListComp elt [⟨tg, iter, ifs, 0⟩] scope pos) spos) (tAsg (tLc wi tu ttu teu (own.map (·.2))) (gName i)) (ownM i (compM (own.map (·.2)) mi st mt me)) := by
  subst e1 e2 e3
  exact pds_own (ps_lc hc hN hy hyl hsw hi ok hg ht he hs) (dn_lc hi.de hg.de hg.own hg.mono ht.de he.de)
/-- name = [..], a datum -/
theorem pds_lc {i : Nat} {y : Str} {py pos spos : Pos}
    (hc : X.calm = true) (hN : X.N.Nodup) (hy : X.N[i]? = some y) (hyl : X.env.scope.names.lookup y = some .local) (hsw : swapsWith (.ListComp elt [⟨tg, iter, ifs, 0⟩] scope pos) (some (.Name y py)) spos.line X.env = pure true)
    (hi : PDI g E X tg iter wi mi) (ok : BlkOk X.N X.env.scope scope own)
    (hg : HG g X scope tg (own.map (·.2)) st) (ht : HT' g X scope ifs mt) (he : HE g X scope elt me) (hs : ∀ x, foldedSetIterable iter X.env x = pure x := by intro _; rfl) (e1 : tu = tgU hg := by rfl) (e2 : ttu = ttU ht := by rfl) (e3 : teu = teU he := by rfl) :
    PDS g E X (.Assign [.Name y py] (.ListComp elt [⟨tg, iter, ifs, 0⟩] scope pos) spos) (tAsg (tLc wi tu ttu teu (own.map (·.2))) (gName i)) (asgM (lstOf (compM (own.map (·.2)) mi st mt me)) (gN i)) := by
  subst e1 e2 e3
  exact pds_set (ps_lc hc hN hy hyl hsw hi ok hg ht he hs) (dg_fresh (dn_lc hi.de hg.de hg.own hg.mono ht.de he.de))
/-! ### bag != [] -/
theorem pt_bne {i : Nat} {e : Expr} {p pos : Pos} (hu : X.A.units + 65 < cLine) (h : PE X e (tVar i)) : PDT g E X (.Compare e [.NotEq] [.List [] p] pos) (tTest (tOp (rNeD X.K) (tVar i) (tLst tNil))) (bneM i) :=
  ⟨pt_cmpR (op_neD (by omega)) h (pe_lst pa_nil) (nomark _), dg_bne⟩
/-! ### a <= b <= c -/
def chainM (f f' : D → D → Option D) (ma mb mc : Ga → M D) : Ga → M D := fun Γ => M.bnd (ma Γ) fun x => M.bnd (mb Γ) fun y => M.bnd (opt (f x y)) (andK (M.bnd (mc Γ) fun z => opt (f' y z)))
theorem dg_chain {K : PySem.W.Frag} {r r' : R2} {f f' : D → D → Option D} {ta tb tc : TE} {ma mb mc : Ga → M D} (hf : OpD g K r f) (hf' : OpD g K r' f') (a : DG g K E (RB K) ta ma) (b : DG g K E (RB K) tb mb) (c : DG g K E (RB K) tc mc) :
    DG g K E (RD K) (tChain r r' ta tb tc) (chainM f f' ma mb mc) := by
  intro ba B0 H0 σ Γ bs B H s Q hn h1 h2
  refine (a ba B0 H0 σ Γ bs B H s).bnd (f := fun x => M.bnd (mb Γ) fun y => M.bnd (opt (f x y)) (andK (M.bnd (mc Γ) fun z => opt (f' y z)))) hn h2 fun x b1 e1 e1' n1 v B1 H1 t1 i1 d1 x1 => ?_
  have s1 := s.step t1 i1
  refine (b ba B0 H0 σ Γ b1 B1 H1 s1).bnd (f := fun y => M.bnd (opt (f x y)) (andK (M.bnd (mc Γ) fun z => opt (f' y z)))) n1 x1 fun y b2 e2 e2' n2 u B2 H2 t2 i2 d2 x2 => ?_
  have s2 := s1.step t2 i2
  cases q : f x y with
  | none => rw [q] at n2; exact absurd rfl n2
  | some z =>
    rw [q] at n2 x2 e2'
    refine hf ba B2 H2 b2 x y z v u q s2.sub s2.off i2 (mono_RB _ _ _ _ _ _ _ t2 s1.off d1) d2 _ fun w B3 H3 t3 i3 d3 => ?_
    have s3 := s2.step t3 i3
    cases z with
    | bl k =>
      refine ⟨k, den_bl d3, ?_⟩
      cases k with
      | false =>
        rw [if_neg Bool.false_ne_true]
        exact h1 (.bl false) b2 (e1'.trans e2') _ B3 H3 ((t1.trans i1 t2).trans i2 t3) i3 den_bl'
      | true =>
        rw [if_pos rfl]
        have n3 : M.bnd (mc Γ) (fun z => opt (f' y z)) b2 ≠ none := n2
        have x3 : Xw g E ba B2 H2 (M.bnd (mc Γ) (fun z => opt (f' y z)) b2) := x2
        refine (c ba B0 H0 σ Γ b2 B3 H3 s3).bnd (f := fun z => opt (f' y z)) n3 (x3.step rfl t3 i3) fun z b4 e4 e4' n4 u4 B4 H4 t4 i4 d4 x4 => ?_
        have s4 := s3.step t4 i4
        obtain ⟨y4, hz, ho⟩ := opt_some n4
        refine hf' ba B4 H4 b4 y z y4 u u4 hz s4.sub s4.off i4 (mono_RB _ _ _ _ _ _ _ t4 s3.off (mono_RB _ _ _ _ _ _ _ t3 s2.off d2)) d4 Q fun w5 B5 H5 t5 i5 d5 => ?_
        exact h1 y4 b4 ((e1'.trans e2').trans (e4'.trans ho)) w5 B5 H5 ((((t1.trans i1 t2).trans i2 t3).trans i3 t4).trans i4 t5) i5 d5
    | _ => exact absurd rfl n2
theorem pd_chain {op op' : CmpOp} {r r' : R2} {f f' : D → D → Option D} {a b c : Expr} {ta tb tc : TE} {ma mb mc : Ga → M D} {pos : Pos} (ho : OpR X (compareOp op) r) (ho' : OpR X (compareOp op') r') (hf : OpD g X.K r f) (hf' : OpD g X.K r' f')
    (ha : PB g E X a ta ma) (hb : PB g E X b tb mb) (hc : PB g E X c tc mc) (hm : lastMarks [op, op'] [b, c] = false := by with_unfolding_all rfl) : PD g E X (.Compare a [op, op'] [b, c] pos) (tChain r r' ta tb tc) (chainM f f' ma mb mc) :=
  ⟨pe_chain ho ho' ha.pe hb.pe hc.pe hm, dg_chain hf hf' ha.de hb.de hc.de⟩
theorem pt_chainD {op op' : CmpOp} {r r' : R2} {f f' : D → D → Option D} {a b c : Expr} {ta tb tc : TE} {ma mb mc : Ga → M D} {pos : Pos} (ho : OpR X (compareOp op) r) (ho' : OpR X (compareOp op') r') (hf : OpD g X.K r f) (hf' : OpD g X.K r' f')
    (ha : PB g E X a ta ma) (hb : PB g E X b tb mb) (hc : PB g E X c tc mc) (hm : lastMarks [op, op'] [b, c] = false := by with_unfolding_all rfl) : PDT g E X (.Compare a [op, op'] [b, c] pos) (tTest (tChain r r' ta tb tc)) (fun Γ => M.bnd (chainM f f' ma mb mc Γ) asB) :=
  ⟨pt_chain ho ho' ha.pe hb.pe hc.pe hm, dg_test (dg_chain hf hf' ha.de hb.de hc.de)⟩
/-! ### a, b = x, y -/
def parK (i j : Nat) (Γ : Ga) : List D → M Fl
  | [x, y] => M.ret (.nx ((Γ.set i (.d x)).set j (.d y)))
  | _ => stuck
def parM (i j : Nat) (ms : Ga → M (List D)) : Ga → M Fl := fun Γ => M.bnd (ms Γ) (parK i j Γ)
theorem parK_inv {i j : Nat} {Γ : Ga} {xs : List D} {bs : MS} (h : parK i j Γ xs bs ≠ none) : ∃ x y, xs = [x, y] := by
  unfold parK at h
  split at h
  · exact ⟨_, _, rfl⟩
  · exact absurd rfl h
theorem pds_par {i j : Nat} {st : Stmt} {ta : TA} {ms : Ga → M (List D)} (h : PS X st (tPar i j ta)) (a : DG g X.K E (RA X.K) ta ms) : PDS g E X st (tPar i j ta) (parM i j ms) := by
  refine ⟨h, fun ba B0 H0 σ Γ bs B H Dn s w => ?_⟩
  refine (a ba B0 H0 σ Γ bs B H s).stm (f := parK i j Γ) s w fun xs b1 vs B1 H1 s1 t1 d1 w1 => ?_
  obtain ⟨x, y, rfl⟩ := parK_inv w1.nn
  obtain ⟨v, r, rfl, h1, h2⟩ := dens_cons_inv d1
  obtain ⟨u, r2, rfl, h3, h4⟩ := dens_cons_inv h2
  rw [dens_nil_inv h4]
  exact ⟨v, u, rfl, w1.nx _ b1 rfl _ B1 H1 ((s1.set h1).set h3) (Ex.refl _)⟩
/-! ### names of the module -/
theorem pd_ty {x : Str} {n : String} {pos : Pos} (hm : X.mg x = none) (hv : bootBuiltins x = some (.type n)) (hg : Gl X x := by rfl) (hn : x ≠ "__name__" := by decide) (hd : (x == ("__debug__" : Str)) = false := by decide) :
    PD g E X (.Name x pos) (tC (.ty n)) (fun _ => M.ret (.obj (.ty n))) := pd_k (pe_bltn hg hm hv rfl hn hd) fun _ _ => den_obj'
theorem pd_gi {x : Str} {i : Int} {pos : Pos} (hm : ∃ t, X.mg x = some (.int i t)) (hg : Gl X x := by rfl) (hd : (x == ("__debug__" : Str)) = false := by decide) : PD g E X (.Name x pos) (tC (.int i)) (fun _ => M.ret (.int i)) := by
  obtain ⟨t, hm⟩ := hm
  exact pd_k (pe_glob hg hm ⟨t, rfl⟩ hd) fun _ _ => den_int'
theorem pd_gs {x : Str} {i : Str} {pos : Pos} (hm : ∃ t, X.mg x = some (.str i t)) (hg : Gl X x := by rfl) (hd : (x == ("__debug__" : Str)) = false := by decide) : PD g E X (.Name x pos) (tC (.str i)) (fun _ => M.ret (.str i)) := by
  obtain ⟨t, hm⟩ := hm
  exact pd_k (pe_glob hg hm ⟨t, rfl⟩ hd) fun _ _ => den_str'
theorem den_strs {K : PySem.W.Frag} {ba : Mu} {B : Hp} (xs : List Str) : Dens K ba B (xs.map D.str) (xs.map V.str) := by
  induction xs with
  | nil => exact dens_nil
  | cons n r ih => exact dens_cons den_str' ih
/-- a tuple of texts -/
theorem pd_gt {x : Str} {a : Addr} {xs : List Str} {pos : Pos} (hm : X.mg x = some (.ref a)) (ht : ∀ H, SqT X.K H a (xs.map V.str)) (hg : Gl X x := by rfl) (hd : (x == ("__debug__" : Str)) = false := by decide) :
    PD g E X (.Name x pos) (tC (.ref a)) (fun _ => M.ret (.tup (xs.map D.str))) := pd_k (pe_glob hg hm rfl hd) fun ba B => den_tup' (ht B) (den_strs xs)
/-! ### raise -/
theorem pds_raise {W : WX} {e : Expr} {C : Addr} {c : Str} {pos : Pos} (hc : X.calm = true) (tk : L2N.Takes X W) (he : L2N.PMk X e (fun _ H Q => Q (.ref C) none H)) (hca : g.ca c = C) (hW : ∀ σ H, E (.ref C) none H → W (.ref C) none σ H) :
    PDS g E X (.Raise (some e) none pos) (fun _ σ H => W (.ref C) none σ H) (fun _ => raise c) :=
  ⟨L2N.ps_raise hc tk he, fun ba B0 H0 σ Γ bs B H Dn s w => hW σ H (by rw [← hca]; exact w.ex c bs rfl B H s.ent s.bag)⟩
end
/-! ### the defs by names -/
/-- the def x, found at the module's name, does f -/
def OkF (g : Gx) (P : Program) (w : World) (K : PySem.W.Frag) (mg : Str → Option Value) (base : Heap) (k : Nat) (x : Str) (ps : List Str) (f : List D → M D) : Prop :=
  ∃ fd, FnOk P w K mg base (L2N.CX P w) k (He.ga K x) fd ps (spD g K ps.length f) ∧ Binds K fd ps [] ∧ mg x = some (.ref (He.ga K x)) ∧ PySem.W.keepIn K (.ref (He.ga K x)) = true ∧ (∃ oc od osl, K.lookup (He.ga K x) = some ⟨oc, od, .func fd, osl⟩) ∧ ∀ (s : Shared) (us : List Value), us.length = ps.length → BindsTo s fd ⟨us, []⟩ (ps.zip us)
/-- where the def x stands -/
def DefF (K : PySem.W.Frag) (mg : Str → Option Value) (x : Str) (st : Stmt) : Prop := ∃ fd, FunD K x x (defArgs st) (defBody st) (defScope st) [] [] (He.ga K x) fd ∧ mg x = some (.ref (He.ga K x))
section
variable {g : Gx} {E : XK} {P : Program} {w : World} {K : PySem.W.Frag} {mg : Str → Option Value} {base : Heap}
theorem okF {x : Str} {st : Stmt} {N ps : List Str} {k : Nat} {m : Ga → M Fl} (F : DefF K mg x st) (S : FnScope N ps (defScope st)) (hps : ps.length ≤ N.length)
    (hb : ∀ (kV doc pm : Value) (an : Option Addr) (cdv ct : Value) (us : List Value), us.length = ps.length → bindArgs (PySem.W.fnOf x x (defArgs st) (defBody st) (defScope st) .none kV doc pm an cdv ct) ⟨us, []⟩ = pure (ps.zip us))
    (hbody : ∀ (f : Addr) (cdv : Value) (A : Around) (outer : List Env) (s : Shared) (H : Hp) (E : XK), Room k (A.deeper (envOfC x (defScope st) s.heap.objs.size f cdv)) → ∃ t, PDSs g E (cxOf (L2N.CX P w) P w K mg base N x (defScope st) f cdv A outer s H E) (defBody st) t m)
    (hgd : ∀ ba B H, g.good ba B H := by exact fun _ _ _ => True.intro) :
    OkF g P w K mg base (k + 1) x ps (runD N.length m) := by
  obtain ⟨fd, F, hm⟩ := F
  have hD : fd = fd := rfl
  obtain ⟨oc, od, dV, kV, doc, pm, an, cdv, ct, osl, e, lk, hcd, hdv, hkv⟩ := F.ex
  have hdn : dV = .none := by
    rcases hdv with ⟨_, h⟩ | ⟨h, _⟩
    · exact h
    · exact absurd rfl h
  subst hdn
  have F' : Fun K x x st (He.ga K x) fd := ⟨⟨oc, od, kV, doc, pm, an, cdv, ct, osl, e, lk, hcd⟩, F.kp⟩
  exact ⟨fd, fn_data F' S hps hgd (fun cdv A outer s H E hr => hbody _ cdv A outer s H E hr), F'.binds hb, hm, F.kp, ⟨oc, od, osl, lk⟩, fun s us hl => .of_eq (by rw [e]; exact hb kV doc pm an cdv ct us hl)⟩
variable {X : Cx}
theorem pd_f {x : Str} {k k' : Nat} {ps : List Str} {f : List D → M D} {p pos : Pos} {e : Expr} {es : List Expr} {t : TA} {ms : Ga → M (List D)} (F : OkF g X.prog X.w X.K X.mg X.base k x ps f) (hr : Room k' X.A) (hk : k ≤ k') (hx : Passes (L2N.CX X.prog X.w) X E)
    (ha : PDA g E X (e :: es) t ms) (hg : Gl X x := by rfl) (hdb : (x == ("__debug__" : Str)) = false := by decide) (he : starEach (e :: es) X.env = (false, eval e X.env) :: starEach es X.env := by rfl) (hpl : (backTo pos (starEach es X.env)).any (·.1) = false := by rfl) :
    PD g E X (.Call (.Name x p) (e :: es) [] pos) (tCall (spD g X.K ps.length f) [] E t) (fun Γ => M.bnd (ms Γ) (callK ps.length f)) := by
  obtain ⟨fd, F, hb, hm, kp, _⟩ := F
  exact pd_fn F (hr.mono hk) hm kp hb hx ha hg hdb he hpl
theorem pd_f0 {x : Str} {k k' : Nat} {ps : List Str} {f : List D → M D} {p pos : Pos} (F : OkF g X.prog X.w X.K X.mg X.base k x ps f) (hr : Room k' X.A) (hk : k ≤ k') (hx : Passes (L2N.CX X.prog X.w) X E) (hg : Gl X x := by rfl) (hdb : (x == ("__debug__" : Str)) = false := by decide) :
    PD g E X (.Call (.Name x p) [] [] pos) (tCall (spD g X.K ps.length f) [] E tNil) (fun Γ => M.bnd (M.ret []) (callK ps.length f)) := by
  obtain ⟨fd, F, hb, hm, kp, _⟩ := F
  exact pd_fn0 F (hr.mono hk) hm kp hb hx hg hdb
end
end DL

set_option Elab.async false
set_option linter.all false
set_option maxRecDepth 100000
set_option maxHeartbeats 400000
/-! Assignments in short; defs that return their own list; a turn with a new bag. -/
namespace DL
open PySem PySem.Spec PyProof.Rows L2
section
variable {g : Gx} {E : XK} {X : Cx}
theorem pds_st {i : Nat} {x : Str} {e : Expr} {te : TE} {m : Ga → M D} {pos pos' : Pos} (hN : X.N.Nodup) (hi : X.N[i]? = some x) (hx : Loc X.env.scope x) (a : PD g E X e te m) (hs : swapsWith e (some (.Name x pos')) pos.line X.env = pure false := by rfl)
    (hf : X.fn x = true ∨ X.env.scope.names.lookup x = some .local := by first | exact .inl rfl | exact .inr rfl | assumption) : PDS g E X (.Assign [.Name x pos'] e pos) (tAsg te (gName i)) (asgM m (gN i)) := pds_set (ps_set hN hi hx a.pe hs hf) a.de
theorem pds_ow {i : Nat} {x : Str} {e : Expr} {te : TE} {m : Ga → M (List D)} {pos pos' : Pos} (hN : X.N.Nodup) (hi : X.N[i]? = some x) (hx : Loc X.env.scope x) (a : PN g E X e te m) (hs : swapsWith e (some (.Name x pos')) pos.line X.env = pure false := by rfl)
    (hf : X.fn x = true ∨ X.env.scope.names.lookup x = some .local := by first | exact .inl rfl | exact .inr rfl | assumption) : PDS g E X (.Assign [.Name x pos'] e pos) (tAsg te (gName i)) (ownM i m) := pds_own (ps_set hN hi hx a.pe hs hf) a.de
theorem pds_p2 {i j : Nat} {x y : Str} {a b : Expr} {ta : TA} {ms : Ga → M (List D)} {px py pt pos : Pos} {kt k2 pt2} (hc : X.calm = true) (hN : X.N.Nodup) (hi : X.N[i]? = some x) (hj : X.N[j]? = some y) (hij : i ≠ j)
    (hx : X.env.scope.names.lookup x = some .local) (hy : X.env.scope.names.lookup y = some .local) (ha : PDA g E X [a, b] ta ms)
    (hw : swappedStores [.Tuple [.Name x px, .Name y py] kt pt] (.Tuple [a, b] k2 pt2) X.env = pure (some [x, y]))
    (hs : swapsWithSole [.Tuple [.Name x px, .Name y py] kt pt] (.Tuple [a, b] k2 pt2) pos.line X.env = pure false := by rfl) :
    PDS g E X (.Assign [.Tuple [.Name x px, .Name y py] kt pt] (.Tuple [a, b] k2 pt2) pos) (tPar i j ta) (parM i j ms) := pds_par (ps_par hc hN hi hj hij hx hy ha.pe hw hs) ha.de
end
/-! ### a def that returns its own list -/
/-- statements that end by the return of an own list; none is raised -/
def RS (g : Gx) (K : PySem.W.Frag) (E : XK) (t : TS) (m : Ga → M (List D)) : Prop :=
  ∀ ba B0 H0 σ Γ bs B H (Q : VK) (nx : L2.St → Hp → Prop), Sta g K ba B0 H0 σ Γ bs B H → m Γ bs ≠ none → (∀ c bs', m Γ bs ≠ some (.ex c, bs')) →
    (∀ ds bs', m Γ bs = some (.ok ds, bs') → ∀ v B' H', Step g ba B0 H0 B' H' → BagIs ba bs' H' → RN K ba B' H' ds v → (∀ a, v = .ref a → H0 a = none) → Q v H') → t { nx := nx, rt := Q } σ H
def rsK (m2 : Ga → M (List D)) : Fl → M (List D)
  | .nx Γ => m2 Γ
  | _ => stuck
def rsM (m1 : Ga → M Fl) (m2 : Ga → M (List D)) : Ga → M (List D) := fun Γ => M.bnd (m1 Γ) (rsK m2)
section
variable {g : Gx} {E : XK} {K : PySem.W.Frag}
theorem rs_seq {t u : TS} {m1 : Ga → M Fl} {m2 : Ga → M (List D)} (h1 : DS g K E t m1) (h2 : RS g K E u m2) : RS g K E (tSeq t u) (rsM m1 m2) := by
  intro ba B0 H0 σ Γ bs B H Q nx s hn hx hq
  cases q : m1 Γ bs with
  | none => exact absurd (show rsM m1 m2 Γ bs = none from bnd_none q) hn
  | some r =>
    obtain ⟨r, b1⟩ := r
    cases r with
    | ex c => exact absurd (show rsM m1 m2 Γ bs = _ from bnd_ex q) (hx c b1)
    | ok f =>
      have e : rsM m1 m2 Γ bs = rsK m2 f b1 := bnd_ok q
      rw [e] at hn hx hq
      refine h1 ba B0 H0 σ Γ bs B H _ s ?_
      rw [q]
      cases f with
      | nx Γ' => exact ⟨fun z => (nomatch z), fun Γ2 bs' z σ' B' H' s' e' => by cases z; exact h2 ba B0 H0 σ' Γ' b1 B' H' Q nx s' hn hx hq, fun _ _ z => (nomatch z), fun _ _ z => (nomatch z), fun _ _ z => (nomatch z), fun _ _ z => (nomatch z)⟩
      | rt d => exact absurd rfl hn
      | bk Γ' => exact absurd rfl hn
      | ct Γ' => exact absurd rfl hn
def roM (i : Nat) : Ga → M (List D) := fun Γ => match Γ[i]? with
  | some (.own ds) => M.ret ds
  | _ => stuck
/-- return xs, xs a slot's own list -/
theorem rs_ret {i : Nat} : RS g K E (tRet (tVar i)) (roM i) := by
  intro ba B0 H0 σ Γ bs B H Q nx s hn hx hq
  cases q : Γ[i]? with
  | none => exact absurd (show roM i Γ bs = none by unfold roM; rw [q]; rfl) hn
  | some y =>
    cases y with
    | no => exact absurd (show roM i Γ bs = none by unfold roM; rw [q]; rfl) hn
    | d x => exact absurd (show roM i Γ bs = none by unfold roM; rw [q]; rfl) hn
    | own ds =>
      have e : roM i Γ bs = some (.ok ds, bs) := by unfold roM; rw [q]; rfl
      obtain ⟨a, vs, e1, na, n0, nb, ha, hd⟩ := s.slot i _ q
      refine ⟨.ref a, join_some e1, hq ds bs e _ B H s.ent s.bag ⟨a, vs, rfl, na, nb, ha, hd⟩ fun b z => ?_⟩
      cases z
      exact n0
/-- its promise -/
def spN (g : Gx) (K : PySem.W.Frag) (n : Nat) (f : List D → M (List D)) : Sp := fun vs H Q _ => ∃ ba B ds bs, ds.length = n ∧ Ex ba B H ∧ BagOff ba B ∧ BagIs ba bs H ∧ TabC g K ba B H ∧ Dens K ba B ds vs ∧ f ds bs ≠ none ∧ (∀ c bs', f ds bs ≠ some (.ex c, bs')) ∧
  (∀ x bs', f ds bs = some (.ok x, bs') → ∀ v B' H', Step g ba B H B' H' → BagIs ba bs' H' → RN K ba B' H' x v → (∀ a, v = .ref a → H a = none) → Q v H')
def runN (n : Nat) (m : Ga → M (List D)) (ds : List D) : M (List D) := calm (m (initG n ds))
/-- such a body: the text and its meaning -/
structure PRS (g : Gx) (E : XK) (X : Cx) (st : List Stmt) (t : TS) (m : Ga → M (List D)) : Prop where
  pe : PSs X st t
  de : RS g X.K E t m
theorem prs_cons {X : Cx} {st : Stmt} {rest : List Stmt} {t u : TS} {m1 : Ga → M Fl} {m2 : Ga → M (List D)} (h1 : PDS g E X st t m1) (h2 : PRS g E X rest u m2) : PRS g E X (st :: rest) (tSeq t u) (rsM m1 m2) := ⟨pss_cons h1.pe h2.pe, rs_seq h1.de h2.de⟩
theorem prs_ret {X : Cx} {i : Nat} {e : Expr} {pos : Pos} (h : PE X e (tVar i)) : PRS g E X [.Return (some e) pos] (tRet (tVar i)) (roM i) := ⟨pss_one (ps_ret h), rs_ret⟩
def OkN (g : Gx) (P : Program) (w : World) (K : PySem.W.Frag) (mg : Str → Option Value) (base : Heap) (k : Nat) (x : Str) (ps : List Str) (f : List D → M (List D)) : Prop :=
  ∃ fd, FnOk P w K mg base (L2N.CX P w) k (He.ga K x) fd ps (spN g K ps.length f) ∧ Binds K fd ps [] ∧ mg x = some (.ref (He.ga K x)) ∧ PySem.W.keepIn K (.ref (He.ga K x)) = true
theorem okN {P : Program} {w : World} {mg : Str → Option Value} {base : Heap} {x : Str} {st : Stmt} {N ps : List Str} {k : Nat} {m : Ga → M (List D)} (F : DefF K mg x st) (S : FnScope N ps (defScope st)) (hps : ps.length ≤ N.length)
    (hb : ∀ (kV doc pm : Value) (an : Option Addr) (cdv ct : Value) (us : List Value), us.length = ps.length → bindArgs (PySem.W.fnOf x x (defArgs st) (defBody st) (defScope st) .none kV doc pm an cdv ct) ⟨us, []⟩ = pure (ps.zip us))
    (hbody : ∀ (f : Addr) (cdv : Value) (A : Around) (outer : List Env) (s : Shared) (H : Hp) (E : XK), Room k (A.deeper (envOfC x (defScope st) s.heap.objs.size f cdv)) →
      ∃ t, PRS g E (cxOf (L2N.CX P w) P w K mg base N x (defScope st) f cdv A outer s H E) (defBody st) t m)
    (hgd : ∀ ba B H, g.good ba B H := by exact fun _ _ _ => True.intro) :
    OkN g P w K mg base (k + 1) x ps (runN N.length m) := by
  obtain ⟨fd, F, hm⟩ := F
  obtain ⟨oc, od, dV, kV, doc, pm, an, cdv, ct, osl, e, lk, hcd, hdv, hkv⟩ := F.ex
  have hdn : dV = .none := by
    rcases hdv with ⟨_, h⟩ | ⟨h, _⟩
    · exact h
    · exact absurd rfl h
  subst hdn
  have F' : Fun K x x st (He.ga K x) fd := ⟨⟨oc, od, kV, doc, pm, an, cdv, ct, osl, e, lk, hcd⟩, F.kp⟩
  refine ⟨fd, ?_, F'.binds hb, hm, F.kp⟩
  refine fun_okN F' S (fun vs H Q E h => ?_) (fun cdv A outer s H vs Q E hr h => ?_)
  · obtain ⟨ba, B, ds, bs, hl, _, _, _, _, hd, _⟩ := h
    rw [hd.length, hl]
  · obtain ⟨t, hp, ht⟩ := hbody _ cdv A outer s H E hr
    obtain ⟨ba, B, ds, bs, hl, e, f, bi, tab, hd, hn, hx, hok⟩ := h
    obtain ⟨a, b', e1, e2⟩ := calm_inv hn
    refine ⟨t, hp, ht ba B H (start N vs) (initG N.length ds) bs B H Q _ (sta_init (by omega) (hgd _ _ _) tab e f bi hd) (by rw [e1]; exact fun z => nomatch z) (fun c bs' => by rw [e1]; exact fun z => nomatch z) fun ds' bs' e3 => ?_⟩
    rw [e1] at e3
    cases e3
    exact hok a b' e2
/-- such a def called: a fresh list -/
def callN (n : Nat) (f : List D → M (List D)) : List D → M (List D) := fun xs => if xs.length = n then f xs else stuck
theorem callN_inv {n : Nat} {f : List D → M (List D)} {xs : List D} {bs : MS} (h : callN n f xs bs ≠ none) : xs.length = n ∧ callN n f xs bs = f xs bs := by
  unfold callN at h ⊢
  by_cases c : xs.length = n
  · rw [if_pos c]; exact ⟨c, rfl⟩
  · rw [if_neg c] at h; exact absurd rfl h
theorem dn_f {n : Nat} {f : List D → M (List D)} {t : TA} {ms : Ga → M (List D)} (a : DG g K E (RA K) t ms) (hc : ∀ xs bs c bs', callN n f xs bs ≠ some (.ex c, bs')) :
    ∀ ba B0 H0 σ Γ bs B H, Sta g K ba B0 H0 σ Γ bs B H → Ev g E (fun ba B' H' ds v => RN K ba B' H' ds v ∧ ∀ a, v = .ref a → H a = none) ba (tCall (spN g K n f) [] E t) σ B H (M.bnd (ms Γ) (callN n f) bs) := by
  intro ba B0 H0 σ Γ bs B H s Q hn h1 h2
  refine (a ba B0 H0 σ Γ bs B H s).bnd (f := callN n f) hn h2 fun xs b1 e1 e1' n1 vs B1 H1 t1 i1 d1 x1 => ?_
  have s1 := s.step t1 i1
  obtain ⟨hl, e2⟩ := callN_inv n1
  have hx := hc xs b1
  rw [e2] at n1 hx
  rw [List.append_nil]
  exact ⟨ba, B1, xs, b1, hl, s1.sub, s1.off, i1, s1.tc, d1, n1, hx, fun x bs' e v B' H' t' b' d' fr => h1 x bs' (e1'.trans (e2.trans e)) v B' H' (t1.trans i1 t') b' ⟨d', fun a ha => t1.hh.dom a (fr a ha)⟩⟩
theorem noex_runN (n k : Nat) (m : Ga → M (List D)) : ∀ xs bs c bs', callN n (runN k m) xs bs ≠ some (.ex c, bs') := fun xs bs c bs' h => by
  obtain ⟨_, e⟩ := callN_inv (n := n) (f := runN k m) (xs := xs) (bs := bs) (by rw [h]; exact fun z => nomatch z)
  rw [h] at e
  have e : some (Res.ex c, bs') = calm (m (initG k xs)) bs := e
  obtain ⟨a, b', _, e2⟩ := calm_inv (m := m (initG k xs)) (b := bs) (by rw [← e]; exact fun z => nomatch z)
  rw [e2] at e
  exact nomatch e
theorem pn_f {X : Cx} {x : Str} {k k' : Nat} {ps : List Str} {f : List D → M (List D)} {p pos : Pos} {e : Expr} {es : List Expr} {t : TA} {ms : Ga → M (List D)} (F : OkN g X.prog X.w X.K X.mg X.base k x ps f) (hr : Room k' X.A) (hk : k ≤ k') (hx : Passes (L2N.CX X.prog X.w) X E)
    (hc : ∀ xs bs c bs', callN ps.length f xs bs ≠ some (.ex c, bs'))
    (ha : PDA g E X (e :: es) t ms) (hg : Gl X x := by rfl) (hdb : (x == ("__debug__" : Str)) = false := by decide) (he : starEach (e :: es) X.env = (false, eval e X.env) :: starEach es X.env := by rfl) (hpl : (backTo pos (starEach es X.env)).any (·.1) = false := by rfl) :
    PN g E X (.Call (.Name x p) (e :: es) [] pos) (tCall (spN g X.K ps.length f) [] E t) (fun Γ => M.bnd (ms Γ) (callN ps.length f)) := by
  obtain ⟨fd, F, hb, hm, kp⟩ := F
  exact ⟨pe_call F (hr.mono hk) hg hm kp hb .nil hx ha.pe hdb he hpl, dn_f ha.de hc⟩
/-- return f(..), f such a def -/
theorem rs_call {te : TE} {m : Ga → M (List D)} (a : ∀ ba B0 H0 σ Γ bs B H, Sta g K ba B0 H0 σ Γ bs B H → Ev g E (fun ba B' H' ds v => RN K ba B' H' ds v ∧ ∀ a, v = .ref a → H a = none) ba te σ B H (m Γ bs)) : RS g K E (tRet te) m := by
  intro ba B0 H0 σ Γ bs B H Q nx s hn hx hq
  refine a ba B0 H0 σ Γ bs B H s _ hn (fun ds bs' e v B' H' t b r => ?_) (fun c bs' e => absurd e (hx c bs'))
  exact hq ds bs' e v B' H' (s.ent.trans s.bag t) b r.1 fun a ha => s.ent.hh.dom a (r.2 a ha)
theorem prs_call {X : Cx} {e : Expr} {te : TE} {m : Ga → M (List D)} {pos : Pos} (a : PN g E X e te m) : PRS g E X [.Return (some e) pos] (tRet te) m := ⟨pss_one (ps_ret a.pe), rs_call a.de⟩
end
/-! ### a turn with a new bag -/
/-- no bag within -/
def noBag : D → Bool
  | .bag => false
  | .card => false
  | .crd _ => false
  | .tup ds => noBags ds
  | .lst ds => noBags ds
  | _ => true
where noBags : List D → Bool
  | [] => true
  | d :: ds => noBag d && noBags ds
section
variable {K : PySem.W.Frag} {ba ba' : Mu} {B : Hp}
mutual
theorem Den.re : ∀ (d : D) (v : V), noBag d = true → Den K ba B d v → Den K ba' B d v
  | .non, _, _, h => by simp only [Den] at h ⊢; exact h
  | .bl _, _, _, h => by simp only [Den] at h ⊢; exact h
  | .int _, _, _, h => by simp only [Den] at h ⊢; exact h
  | .str _, _, _, h => by simp only [Den] at h ⊢; exact h
  | .obj _, _, _, h => by simp only [Den] at h ⊢; exact h
  | .scr _, _, _, h => by simp only [Den] at h ⊢; exact h
  | .fn _, _, _, h => by simp only [Den] at h ⊢; exact h
  | .bag, _, n, _ => by simp [noBag] at n
  | .card, _, n, _ => by simp [noBag] at n
  | .crd _, _, n, _ => by simp [noBag] at n
  | .tup ds, _, n, h => by
    simp only [Den] at h ⊢
    obtain ⟨a, vs, e1, h1, h2⟩ := h
    exact ⟨a, vs, e1, h1, Dens.re ds vs (by simpa only [noBag] using n) h2⟩
  | .lst ds, _, n, h => by
    simp only [Den] at h ⊢
    obtain ⟨a, vs, e1, h1, h2⟩ := h
    exact ⟨a, vs, e1, h1, Dens.re ds vs (by simpa only [noBag] using n) h2⟩
theorem Dens.re : ∀ (ds : List D) (vs : List V), noBag.noBags ds = true → Dens K ba B ds vs → Dens K ba' B ds vs
  | [], _, _, h => by simp only [Dens] at h ⊢; exact h
  | d :: ds, _, n, h => by
    simp only [Dens] at h ⊢
    simp only [noBag.noBags, Bool.and_eq_true] at n
    obtain ⟨v, r, e1, h1, h2⟩ := h
    exact ⟨v, r, e1, Den.re d v n.1 h1, Dens.re ds r n.2 h2⟩
end
end
def cleanS : S → S
  | .d x => if noBag x = true then .d x else .no
  | _ => .no
def cleanG (Γ : Ga) : Ga := Γ.map cleanS
def intsOf (ds : List D) : M (List Int) := opt (intL ds)
/-- the outcome of a turn, the bag forgotten -/
def unbag (bs : MS) : Option (Res Fl × MS) → Option (Res Fl × MS)
  | some (.ok (.nx Γ), _) => some (.ok (.nx (cleanG Γ)), bs)
  | some (.ok (.ct Γ), _) => some (.ok (.ct (cleanG Γ)), bs)
  | some (.ok (.bk Γ), _) => some (.ok (.bk (cleanG Γ)), bs)
  | some (.ok (.rt d), _) => if noBag d = true then some (.ok (.rt d), bs) else none
  | _ => none
/-- a bag alone -/
def muB (p : Addr) : Mu := ⟨some p, none, 0, [], []⟩
def msB (ns : List Int) : MS := ⟨[], ns, Str.empty, []⟩
theorem muB_has {p b : Addr} (h : (muB p).has b) : b = p := by
  rcases h with h | ⟨c, hc, _⟩
  · cases h; rfl
  · cases hc
theorem muB_self {p : Addr} : (muB p).has p := .inl rfl
theorem muB_is {p : Addr} {ns : List Int} {H : Hp} (h : H p = some (.lst (ns.map V.int))) : BagIs (muB p) (msB ns) H := ⟨fun a ha => by cases ha; exact h, rfl, fun c hc => by cases hc⟩
def bagM (i : Nat) (m1 : Ga → M (List D)) (m2 : Ga → M Fl) : Ga → M Fl := fun Γ bs => match m1 (cleanG Γ) bs with
  | some (.ok ds, b1) => (match intL ds with
    | some ns => unbag b1 (m2 ((cleanG Γ).set i (.d .bag)) (msB ns))
    | none => none)
  | _ => none
section
variable {g : Gx} {E : XK} {K : PySem.W.Frag} {B0 H0 B H : Hp} {σ : L2.St} {Γ : Ga} {bs : MS}
theorem Sta.clean {ba ba' : Mu} {bs' : MS} {B0' H0' : Hp} (s : Sta g K ba B0 H0 σ Γ bs B H) (gd : g.good ba' B0' H0') (e : Step g ba' B0' H0' B H) (f : BagOff ba' B) (bi : BagIs ba' bs' H) (cs : CstOk K ba' B) : Sta g K ba' B0' H0' σ (cleanG Γ) bs' B H := by
  refine ⟨by rw [← s.len]; simp [cleanG], gd, s.tab, e, f, bi, fun i x hx => ?_, fun i j a ds es h1 => ?_, cs⟩
  · unfold cleanG at hx
    rw [List.getElem?_map] at hx
    obtain ⟨y, hy, rfl⟩ := Option.map_eq_some_iff.mp hx
    have h := s.slot i y hy
    cases y with
    | no => exact True.intro
    | own ds => exact True.intro
    | d z =>
      unfold cleanS
      by_cases c : noBag z = true
      · simp only [c, if_true]
        obtain ⟨v, e1, e2⟩ := h
        exact ⟨v, e1, Den.re z v c e2⟩
      · simp only [c]
        exact True.intro
  · unfold cleanG at h1
    rw [List.getElem?_map] at h1
    obtain ⟨y, hy, e⟩ := Option.map_eq_some_iff.mp h1
    unfold cleanS at e
    split at e
    · split at e <;> cases e
    · cases e
theorem den_of_ints {ba : Mu} {ds : List D} {vs : List V} {ns : List Int} (h : intL ds = some ns) (d : Dens K ba B ds vs) : vs = ns.map V.int := ints_den h d
/-- Step, whichever bag: the bag's address is new -/
theorem Step.re {ba : Mu} {a : Addr} {B1 H1 B2 H2 : Hp} (nB : B a = none) (nH : H a = none) (t : Step g ba B H B1 H1) (u : Step g (muB a) B1 H1 B2 H2) (nb1 : B1 a = none) (n2 : B2 a = none) (hbag : ∀ b, ba.has b → ∃ o, H1 b = some o ∧ ∀ ps, o ≠ .tbl ps) : Step g ba B H B2 H2 := by
  refine ⟨⟨fun b o hn hb ht => ?_, fun b z => t.bb.dom b (u.bb.dom b z)⟩, ⟨fun b o hn hb ht => ?_, fun b z => t.hh.dom b (u.hh.dom b z)⟩, ⟨fun b o hn hb ht => ?_, fun b z => u.bh.dom b z⟩, fun b o hb ht z => ?_, fun z => u.tb (t.tb z)⟩
  · have h1 := t.bb.keep b o hn hb ht
    refine u.bb.keep b o (fun z => ?_) h1 ht
    cases muB_has z
    rw [nb1] at h1
    cases h1
  · have h1 := t.hh.keep b o hn hb ht
    refine u.hh.keep b o (fun z => ?_) h1 ht
    cases muB_has z
    rw [nH] at hb
    cases hb
  · refine u.bh.keep b o (fun z => ?_) hb ht
    cases muB_has z
    rw [n2] at hb
    cases hb
  · by_cases c : ba.has b
    · obtain ⟨o2, h1, t1⟩ := hbag b c
      exact u.nw b _ h1 t1 (t.nw b o hb ht z)
    · exact u.nw b o (t.hh.keep b o c hb ht) ht (t.nw b o hb ht z)
theorem unbag_inv {bs : MS} {r : Option (Res Fl × MS)} (h : unbag bs r ≠ none) : ∃ f b, r = some (.ok f, b) := by
  unfold unbag at h
  split at h
  · exact ⟨_, _, rfl⟩
  · exact ⟨_, _, rfl⟩
  · exact ⟨_, _, rfl⟩
  · exact ⟨_, _, rfl⟩
  · exact absurd rfl h
/-- bag = f(..), then the turn -/
theorem ds_bag {i : Nat} {te : TE} {u : TS} {m1 : Ga → M (List D)} {m2 : Ga → M Fl} (a : ∀ ba B0 H0 σ Γ bs B H, Sta g K ba B0 H0 σ Γ bs B H → Ev g E (fun ba B' H' ds v => RN K ba B' H' ds v ∧ ∀ a, v = .ref a → H a = none) ba te σ B H (m1 Γ bs))
    (hgd : ∀ ba B H, g.good ba B H) (h : DS g K E u m2) : DS g K E (tSeq (tAsg te (gName i)) u) (bagM i m1 m2) := by
  intro ba B0 H0 σ Γ bs B H Dn s w
  have s0 : Sta g K ba B H σ (cleanG Γ) bs B H := s.clean (hgd _ _ _) (Step.refl s.sub) s.off s.bag s.cst
  cases q : m1 (cleanG Γ) bs with
  | none => exact absurd (show bagM i m1 m2 Γ bs = none by unfold bagM; rw [q]) w.nn
  | some r =>
    obtain ⟨r, b1⟩ := r
    cases r with
    | ex c => exact absurd (show bagM i m1 m2 Γ bs = none by unfold bagM; rw [q]) w.nn
    | ok ds =>
      cases ql : intL ds with
      | none => exact absurd (show bagM i m1 m2 Γ bs = none by unfold bagM; rw [q]; dsimp only; rw [ql]) w.nn
      | some ns =>
        have w := w.cast (show bagM i m1 m2 Γ bs = unbag b1 (m2 ((cleanG Γ).set i (.d .bag)) (msB ns)) by unfold bagM; rw [q]; dsimp only; rw [ql])
        obtain ⟨f, b2, q2⟩ := unbag_inv w.nn
        refine a ba B H σ (cleanG Γ) bs B H s0 _ (by rw [q]; exact fun z => nomatch z) (fun ds' bs' e v B1 H1 t1 i1 d1 => ?_) (fun c bs' e => by rw [q] at e; exact nomatch e)
        rw [q] at e
        cases e
        obtain ⟨⟨p, vs, rfl, np, nb, hp, hd⟩, fr⟩ := d1
        have nH := fr p rfl
        have nB := s.sub.dom p nH
        have ev := den_of_ints ql hd
        subst ev
        have t0 := s0.step t1 i1
        -- the bag's state: all is entered here
        have s1 : Sta g K (muB p) B1 H1 (σ.set i (some (.ref p))) ((cleanG Γ).set i (.d .bag)) (msB ns) B1 H1 := by
          have s2 : Sta g K (muB p) B1 H1 σ (cleanG (cleanG Γ)) (msB ns) B1 H1 :=
            t0.clean (hgd _ _ _) ⟨Ex.refl _, Ex.refl _, ⟨fun b o nz hb ht => t1.bh.keep b o (fun z => by rw [t0.off b z] at hb; cases hb) hb ht, t1.bh.dom⟩, fun _ _ _ _ z => z, fun z => z⟩ (fun b hb => by cases muB_has hb; exact nb) (muB_is hp) ⟨dens_nil, fun _ h => by cases h⟩
          have e2 : cleanG (cleanG Γ) = cleanG Γ := by
            unfold cleanG
            rw [List.map_map]
            refine List.map_congr_left fun x _ => ?_
            show cleanS (cleanS x) = cleanS x
            cases x with
            | no => rfl
            | own ds => rfl
            | d y =>
              unfold cleanS
              by_cases c : noBag y = true
              · simp only [c, if_true]
              · simp only [c]
                rfl
          rw [e2] at s2
          exact s2.set (by simp only [Den]; exact ⟨p, rfl, rfl⟩)
        have back2 : ∀ {H' : Hp}, Ex (muB p) H1 H' → BagIs ba b1 H' := fun {H'} st => by
          have kp : ∀ b o, H1 b = some o → b ≠ p → (∀ ps, o ≠ .tbl ps) → H' b = some o := fun b o h n t => st.keep b o (fun z => n (muB_has z)) h t
          refine ⟨fun b hb => kp b _ (i1.bag b hb) (fun z => np (by rw [← z]; exact .inl hb)) (fun _ z => by cases z), i1.cds, fun c hc => ?_⟩
          obtain ⟨q, h1, h2, h3⟩ := i1.card c hc
          exact ⟨q, kp _ _ h1 (fun z => np (by rw [← z]; exact .inr ⟨c, hc, .inl rfl⟩)) (fun _ z => by cases z), kp _ _ h2 (fun z => np (by rw [← z]; exact .inr ⟨c, hc, .inr rfl⟩)) (fun _ z => by cases z), kp _ _ h3 (fun z => by rw [z, hp] at h3; cases h3) (fun _ z => by cases z)⟩
        have back : ∀ {B' H' : Hp}, Step g (muB p) B1 H1 B' H' → Step g ba B H B' H' ∧ BagOff ba B' ∧ BagIs ba b1 H' := fun {B' H'} st =>
          ⟨Step.re nB nH t1 st nb (st.nw p _ hp (fun _ z => by cases z) nb) (fun b hb => i1.at hb), fun b hb => let ⟨_, h2, t2⟩ := i1.at hb; st.nw b _ h2 t2 (t0.off b hb), back2 st.hh⟩
        have backS : ∀ {σ' : L2.St} {Γ' : Ga} {b' : MS} {B' H' : Hp}, Sta g K (muB p) B1 H1 σ' Γ' b' B' H' → Sta g K ba B0 H0 σ' (cleanG Γ') b1 B' H' ∧ Ex ba B B' := fun {σ' Γ' b' B' H'} s' => by
          obtain ⟨st, of, bi⟩ := back s'.ent
          exact ⟨s'.clean s.gd (s.ent.trans s.bag st) of bi (s.cst.mono st.bb s.off), st.bb⟩
        refine h (muB p) B1 H1 _ _ (msB ns) B1 H1 Dn s1 ?_
        rw [q2] at w ⊢
        cases f with
        | nx Γ' => exact ⟨fun z => (nomatch z), fun Γ2 bs' z σ' B' H' s' e' => by cases z; exact w.nx _ b1 rfl σ' B' H' (backS s').1 (backS s').2, fun _ _ z => (nomatch z), fun _ _ z => (nomatch z), fun _ _ z => (nomatch z), fun _ _ z => (nomatch z)⟩
        | bk Γ' => exact ⟨fun z => (nomatch z), fun _ _ z => (nomatch z), fun Γ2 bs' z σ' B' H' s' e' => by cases z; exact w.bk _ b1 rfl σ' B' H' (backS s').1 (backS s').2, fun _ _ z => (nomatch z), fun _ _ z => (nomatch z), fun _ _ z => (nomatch z)⟩
        | ct Γ' => exact ⟨fun z => (nomatch z), fun _ _ z => (nomatch z), fun _ _ z => (nomatch z), fun Γ2 bs' z σ' B' H' s' e' => by cases z; exact w.ct _ b1 rfl σ' B' H' (backS s').1 (backS s').2, fun _ _ z => (nomatch z), fun _ _ z => (nomatch z)⟩
        | rt d =>
          have c : noBag d = true := by
            by_cases c : noBag d = true
            · exact c
            · refine absurd (show unbag b1 (some (Res.ok (Fl.rt d), b2)) = none from ?_) w.nn
              show (if noBag d = true then _ else none) = none
              rw [if_neg c]
          have w := w.cast (show unbag b1 (some (Res.ok (Fl.rt d), b2)) = some (.ok (.rt d), b1) by show (if noBag d = true then _ else none) = _; rw [if_pos c])
          refine ⟨fun z => (nomatch z), fun _ _ z => (nomatch z), fun _ _ z => (nomatch z), fun _ _ z => (nomatch z), fun x bs' z v B' H' t' b' d' => ?_, fun _ _ z => (nomatch z)⟩
          cases z
          obtain ⟨st, of, bi⟩ := back t'
          exact w.rt d b1 rfl v B' H' (s.ent.trans s.bag st) bi (Den.re d v c d')
theorem pds_bag {X : Cx} {i : Nat} {st : Stmt} {rest : List Stmt} {te : TE} {u : TS} {m1 : Ga → M (List D)} {m2 : Ga → M Fl} (hs : PS X st (tAsg te (gName i)))
    (a : ∀ ba B0 H0 σ Γ bs B H, Sta g X.K ba B0 H0 σ Γ bs B H → Ev g E (fun ba B' H' ds v => RN X.K ba B' H' ds v ∧ ∀ a, v = .ref a → H a = none) ba te σ B H (m1 Γ bs)) (hgd : ∀ ba B H, g.good ba B H) (h : PDSs g E X rest u m2) :
    PDSs g E X (st :: rest) (tSeq (tAsg te (gName i)) u) (bagM i m1 m2) := ⟨pss_cons hs h.pe, ds_bag a hgd h.de⟩
theorem pds_bagE {X : Cx} {i : Nat} {x : Str} {e : Expr} {rest : List Stmt} {te : TE} {u : TS} {m1 : Ga → M (List D)} {m2 : Ga → M Fl} {pos pos' : Pos} (hN : X.N.Nodup) (hi : X.N[i]? = some x) (hx : Loc X.env.scope x) (a : PN g E X e te m1) (h : PDSs g E X rest u m2) (hgd : ∀ ba B H, g.good ba B H := by exact fun _ _ _ => True.intro)
    (hs : swapsWith e (some (.Name x pos')) pos.line X.env = pure false := by rfl) (hf : X.fn x = true ∨ X.env.scope.names.lookup x = some .local := by first | exact .inl rfl | exact .inr rfl | assumption) :
    PDSs g E X (.Assign [.Name x pos'] e pos :: rest) (tSeq (tAsg te (gName i)) u) (bagM i m1 m2) := pds_bag (ps_set hN hi hx a.pe hs hf) a.de hgd h
end
end DL

set_option Elab.async false
set_option linter.all false
set_option maxRecDepth 100000
set_option maxHeartbeats 400000
/-! Comparisons in short, with the room at hand. -/
namespace DL
open PySem PySem.Spec PyProof.Rows L2
section
variable {g : Gx} {E : XK} {X : Cx} {ea eb : Expr} {ta tb : TE} {ma mb : Ga → M D} {pos : Pos} {k : Nat}
theorem pd_eq (hr : Room k X.A) (a : PB g E X ea ta ma) (b : PB g E X eb tb mb) (hm : behindInMarks .Eq eb = false := by first | exact nomark _ | rfl) : PD g E X (.Compare ea [.Eq] [eb] pos) (tOp (rEqD X.K) ta tb) (bin D.eq ma mb) := pd_cmp (op_eqD hr.units) od_eq a b hm
theorem pd_ne (hr : Room k X.A) (a : PB g E X ea ta ma) (b : PB g E X eb tb mb) (hm : behindInMarks .NotEq eb = false := by first | exact nomark _ | rfl) : PD g E X (.Compare ea [.NotEq] [eb] pos) (tOp (rNeD X.K) ta tb) (bin D.ne ma mb) := pd_cmp (op_neD hr.units) od_ne a b hm
theorem pd_in (hr : Room k X.A) (a : PB g E X ea ta ma) (b : PB g E X eb tb mb) (hm : behindInMarks .In eb = false := by first | exact nomark _ | rfl) : PD g E X (.Compare ea [.In] [eb] pos) (tOp (rInA X.K false) ta tb) (bin D.isin ma mb) := pd_cmp (op_inA (hu65 hr)) od_in a b hm
theorem pd_notin (hr : Room k X.A) (a : PB g E X ea ta ma) (b : PB g E X eb tb mb) (hm : behindInMarks .NotIn eb = false := by first | exact nomark _ | rfl) : PD g E X (.Compare ea [.NotIn] [eb] pos) (tOp (rInA X.K true) ta tb) (bin D.notin ma mb) := pd_cmp (op_notinA (hu65 hr)) od_notin a b hm
theorem pt_eq (hr : Room k X.A) (a : PB g E X ea ta ma) (b : PB g E X eb tb mb) (hm : behindInMarks .Eq eb = false := by first | exact nomark _ | rfl) : PDT g E X (.Compare ea [.Eq] [eb] pos) (tTest (tOp (rEqD X.K) ta tb)) (fun Γ => M.bnd (bin D.eq ma mb Γ) asB) := pt_cmp (op_eqD hr.units) od_eq a b hm
theorem pt_ne (hr : Room k X.A) (a : PB g E X ea ta ma) (b : PB g E X eb tb mb) (hm : behindInMarks .NotEq eb = false := by first | exact nomark _ | rfl) : PDT g E X (.Compare ea [.NotEq] [eb] pos) (tTest (tOp (rNeD X.K) ta tb)) (fun Γ => M.bnd (bin D.ne ma mb Γ) asB) := pt_cmp (op_neD hr.units) od_ne a b hm
theorem pt_in (hr : Room k X.A) (a : PB g E X ea ta ma) (b : PB g E X eb tb mb) (hm : behindInMarks .In eb = false := by first | exact nomark _ | rfl) : PDT g E X (.Compare ea [.In] [eb] pos) (tTest (tOp (rInA X.K false) ta tb)) (fun Γ => M.bnd (bin D.isin ma mb Γ) asB) := pt_cmp (op_inA (hu65 hr)) od_in a b hm
theorem pt_notin (hr : Room k X.A) (a : PB g E X ea ta ma) (b : PB g E X eb tb mb) (hm : behindInMarks .NotIn eb = false := by first | exact nomark _ | rfl) : PDT g E X (.Compare ea [.NotIn] [eb] pos) (tTest (tOp (rInA X.K true) ta tb)) (fun Γ => M.bnd (bin D.notin ma mb Γ) asB) := pt_cmp (op_notinA (hu65 hr)) od_notin a b hm
end
end DL

set_option Elab.async false
set_option linter.all false
set_option maxRecDepth 100000
set_option maxHeartbeats 400000
/-! Reading mirrors: evaluation, and what holds whatever is drawn. -/
namespace DL
open PySem PySem.Spec PyProof.Rows L2
/-! ### evaluation -/
section
variable {α β γ : Type}
@[simp] theorem bnd_ret (a : α) (f : α → M β) : M.bnd (M.ret a) f = f a := rfl
@[simp] theorem bnd_stuck (f : α → M β) : M.bnd stuck f = stuck := rfl
@[simp] theorem bnd_raise (c : Str) (f : α → M β) : M.bnd (raise c) f = raise c := rfl
@[simp] theorem bnd_optS (a : α) (f : α → M β) : M.bnd (opt (some a)) f = f a := rfl
@[simp] theorem opt_ret (a : α) : opt (some a) = M.ret a := rfl
@[simp] theorem opt_non : opt (none : Option α) = stuck := rfl
@[simp] theorem calm_ret (a : α) : calm (M.ret a) = M.ret a := rfl
theorem bnd_assoc (m : M α) (f : α → M β) (k : β → M γ) : M.bnd (M.bnd m f) k = M.bnd m fun a => M.bnd (f a) k := by
  funext b
  unfold M.bnd
  cases m b with
  | none => rfl
  | some r =>
    obtain ⟨r, b'⟩ := r
    cases r <;> rfl
theorem bnd_if (c : Bool) (a b : M α) (f : α → M β) : M.bnd (if c = true then a else b) f = if c = true then M.bnd a f else M.bnd b f := by cases c <;> rfl
@[simp] theorem ifM_ret (c : Bool) (a b : M α) : ifM (M.ret c) a b = if c = true then a else b := rfl
@[simp] theorem andM_ret (c : Bool) (b : M Bool) : andM (M.ret c) b = if c = true then b else M.ret false := rfl
@[simp] theorem orM_ret (c : Bool) (b : M Bool) : orM (M.ret c) b = if c = true then M.ret true else b := rfl
@[simp] theorem notM_ret (c : Bool) : notM (M.ret c) = M.ret (!c) := rfl
@[simp] theorem andV_ret (c : Bool) (b : M D) : andV (M.ret (.bl c)) b = if c = true then b else M.ret (.bl false) := by cases c <;> rfl
@[simp] theorem orV_ret (c : Bool) (b : M D) : orV (M.ret (.bl c)) b = if c = true then M.ret (.bl true) else b := by cases c <;> rfl
@[simp] theorem notV_ret (c : Bool) : notV (M.ret (.bl c)) = M.ret (.bl (!c)) := rfl
@[simp] theorem asB_bl (c : Bool) : asB (.bl c) = M.ret c := rfl
@[simp] theorem asI_int (i : Int) : asI (.int i) = M.ret (some i) := rfl
@[simp] theorem consM_ret (a : D) (xs : List D) : consM (M.ret a) (M.ret xs) = M.ret (a :: xs) := rfl
@[simp] theorem outK_rt (d : D) : outK (.rt d) = M.ret d := rfl
@[simp] theorem outK_nx (Γ : Ga) : outK (.nx Γ) = M.ret .non := rfl
@[simp] theorem seqK_nx (m : Ga → M Fl) (Γ : Ga) : seqK m (.nx Γ) = m Γ := rfl
@[simp] theorem seqK_rt (m : Ga → M Fl) (d : D) : seqK m (.rt d) = M.ret (.rt d) := rfl
@[simp] theorem seqK_bk (m : Ga → M Fl) (Γ : Ga) : seqK m (.bk Γ) = M.ret (.bk Γ) := rfl
@[simp] theorem seqK_ct (m : Ga → M Fl) (Γ : Ga) : seqK m (.ct Γ) = M.ret (.ct Γ) := rfl
@[simp] theorem forK_nx (m : Ga → M Fl) (Γ : Ga) : forK m (.nx Γ) = m Γ := rfl
@[simp] theorem forK_ct (m : Ga → M Fl) (Γ : Ga) : forK m (.ct Γ) = m Γ := rfl
@[simp] theorem forK_bk (m : Ga → M Fl) (Γ : Ga) : forK m (.bk Γ) = M.ret (.nx Γ) := rfl
@[simp] theorem forK_rt (m : Ga → M Fl) (d : D) : forK m (.rt d) = M.ret (.rt d) := rfl
@[simp] theorem rsK_nx (m : Ga → M (List D)) (Γ : Ga) : rsK m (.nx Γ) = m Γ := rfl
theorem if_ret (c : Bool) (a b : α) : (if c = true then M.ret a else M.ret b) = M.ret (if c = true then a else b) := by cases c <;> rfl
end
/-! ### mirrors at their slots -/
section
variable {Γ : Ga} {x : D} {s : S} {n i j : Nat} {ds : List D}
@[simp] theorem rdv_0 : rdv (.d x :: Γ) 0 = M.ret x := rfl
@[simp] theorem rdv_s : rdv (s :: Γ) (n + 1) = rdv Γ n := rfl
@[simp] theorem rdo_0 : rdo (.d x :: Γ) 0 = M.ret x := rfl
@[simp] theorem rdo_1 : rdo (.own ds :: Γ) 0 = M.ret (.lst ds) := rfl
@[simp] theorem rdo_s : rdo (s :: Γ) (n + 1) = rdo Γ n := rfl
@[simp] theorem roM_1 : roM 0 (.own ds :: Γ) = M.ret ds := rfl
@[simp] theorem roM_s : roM (n + 1) (s :: Γ) = roM n Γ := rfl
@[simp] theorem gN_ap : gN i x Γ = some (Γ.set i (.d x)) := rfl
@[simp] theorem gsNil_ap : gsNil [] Γ = some Γ := rfl
@[simp] theorem gsCons_ap (m : D → Ga → Option Ga) (ms : List D → Ga → Option Ga) (xs : List D) : gsCons m ms (x :: xs) Γ = (m x Γ).bind (ms xs) := rfl
theorem gT_ap (ms : List D → Ga → Option Ga) (h : ds.length = n) : gT n ms (.tup ds) Γ = ms ds Γ := if_pos h
@[simp] theorem seqM_ap (a b : Ga → M Fl) : seqM a b Γ = M.bnd (a Γ) (seqK b) := rfl
@[simp] theorem rsM_ap (a : Ga → M Fl) (b : Ga → M (List D)) : rsM a b Γ = M.bnd (a Γ) (rsK b) := rfl
@[simp] theorem retM_ap (m : Ga → M D) : retM m Γ = M.bnd (m Γ) fun x => M.ret (.rt x) := rfl
@[simp] theorem dropM_ap (m : Ga → M D) : dropM m Γ = M.bnd (m Γ) fun _ => M.ret (.nx Γ) := rfl
@[simp] theorem asgM_ap (m : Ga → M D) (st : D → Ga → Option Ga) : asgM m st Γ = M.bnd (m Γ) fun x => M.bnd (opt (st x Γ)) fun Γ' => M.ret (.nx Γ') := rfl
@[simp] theorem ownM_ap (m : Ga → M (List D)) : ownM i m Γ = M.bnd (m Γ) fun ds => M.ret (.nx (Γ.set i (.own ds))) := rfl
@[simp] theorem nxM_ap : nxM Γ = M.ret (.nx Γ) := rfl
@[simp] theorem bin_ap (f : D → D → Option D) (a b : Ga → M D) : bin f a b Γ = M.bnd (a Γ) fun x => M.bnd (b Γ) fun y => opt (f x y) := rfl
@[simp] theorem un1_ap (f : D → Option D) (a : Ga → M D) : un1 f a Γ = M.bnd (a Γ) fun x => opt (f x) := rfl
@[simp] theorem lstOf_ap (m : Ga → M (List D)) : lstOf m Γ = M.bnd (m Γ) fun ds => M.ret (.lst ds) := rfl
@[simp] theorem chainM_ap (f f' : D → D → Option D) (a b c : Ga → M D) : chainM f f' a b c Γ = M.bnd (a Γ) fun x => M.bnd (b Γ) fun y => M.bnd (opt (f x y)) (andK (M.bnd (c Γ) fun z => opt (f' y z))) := rfl
@[simp] theorem parM_ap (m : Ga → M (List D)) : parM i j m Γ = M.bnd (m Γ) (parK i j Γ) := rfl
@[simp] theorem parK_ap (y : D) : parK i j Γ [x, y] = M.ret (.nx ((Γ.set i (.d x)).set j (.d y))) := rfl
theorem forM_ap (m : Ga → M (List D)) (st : D → Ga → Option Ga) (b : Ga → M Fl) : forM' m st b Γ = M.bnd (m Γ) fun xs => forL st b xs Γ := rfl
theorem compM_ap (vs : List Nat) (mi : Ga → M (List D)) (st : D → Ga → Option Ga) (mt : Ga → M Bool) (me : Ga → M D) : compM vs mi st mt me Γ = M.bnd (mi Γ) fun xs => M.bnd (lenK xs) fun xs => compL st mt me (wipeG Γ vs) xs := rfl
theorem app_at (m : Ga → M D) (h : Γ[i]? = some (.own ds)) : appM i m Γ = M.bnd (m Γ) (appK i Γ ds) := by unfold appM; rw [h]
theorem appK_ap (h : ds.length < 100000) : appK i Γ ds x = M.ret (.nx (Γ.set i (.own (ds ++ [x])))) := if_pos h
theorem frz_at (h : Γ[i]? = some (.own ds)) : frz i Γ = Γ.set i (.d (.lst ds)) := by unfold frz; rw [h]
theorem lenK_ap (h : ds.length ≤ 100000) : lenK ds = M.ret ds := if_pos h
theorem tupK_ap (h : ds.length ≤ 100000) : tupK ds = M.ret (.tup ds) := if_pos h
theorem lstK_ap (h : ds.length ≤ 100000) : lstK ds = M.ret (.lst ds) := if_pos h
theorem callK_ap (f : List D → M D) (h : ds.length = n) : callK n f ds = f ds := if_pos h
theorem cutM_ap (a : D) (l h : Option Int) : cutM (M.ret a) (M.ret l) (M.ret h) = opt (D.cut a l h) := rfl
@[simp] theorem itemsK_l : itemsK (.lst ds) = M.ret ds := rfl
@[simp] theorem itemsK_t : itemsK (.tup ds) = M.ret ds := rfl
@[simp] theorem itemsK_s (z : Str) : itemsK (.str z) = M.ret (sgnL z) := rfl
@[simp] theorem andK_t (b : M D) : andK b (.bl true) = b := rfl
@[simp] theorem andK_f (b : M D) : andK b (.bl false) = M.ret (.bl false) := rfl
theorem andK_b (b : M D) (c : Bool) : andK b (.bl c) = if c = true then b else M.ret (.bl false) := by cases c <;> rfl
@[simp] theorem addI (a b : Int) : D.add (.int a) (.int b) = some (.int (a + b)) := rfl
@[simp] theorem subI (a b : Int) : D.sub (.int a) (.int b) = some (.int (a - b)) := rfl
@[simp] theorem ltI (a b : Int) : D.lt (.int a) (.int b) = some (.bl (decide (a < b))) := rfl
@[simp] theorem leI (a b : Int) : D.le (.int a) (.int b) = some (.bl (decide (a ≤ b))) := rfl
@[simp] theorem gtI (a b : Int) : D.gt (.int a) (.int b) = some (.bl (decide (b < a))) := rfl
@[simp] theorem geI (a b : Int) : D.ge (.int a) (.int b) = some (.bl (decide (b ≤ a))) := rfl
@[simp] theorem negI (a : Int) : D.neg (.int a) = some (.int (-a)) := rfl
theorem modI {a b : Int} (h : 0 < b) : D.mod (.int a) (.int b) = some (.int (a % b)) := if_pos h
theorem fdivI {a b : Int} (h : 0 < b) (h2 : b < 1073741824) : D.fdiv (.int a) (.int b) = some (.int (a / b)) := if_pos ⟨h, h2⟩
theorem mulI {a b : Int} (h : (-(2 ^ 64) < a ∧ a < 2 ^ 64) ∨ (-(2 ^ 64) < b ∧ b < 2 ^ 64)) : D.mul (.int a) (.int b) = some (.int (a * b)) := if_pos h
@[simp] theorem isi_ii (a : Int) : D.isi [.int a, .obj (.ty "int")] = some (.bl true) := rfl
@[simp] theorem isi_ib (a : Int) : D.isi [.int a, .obj (.ty "bool")] = some (.bl false) := rfl
@[simp] theorem isi_ss (a : Str) : D.isi [.str a, .obj (.ty "str")] = some (.bl true) := rfl
@[simp] theorem isi_tt : D.isi [.tup ds, .obj (.ty "tuple")] = some (.bl true) := rfl
@[simp] theorem isi_ll : D.isi [.lst ds, .obj (.ty "list")] = some (.bl true) := rfl
@[simp] theorem len_l : D.len [.lst ds] = some (.int ds.length) := rfl
@[simp] theorem len_t : D.len [.tup ds] = some (.int ds.length) := rfl
@[simp] theorem len_c (ns : List Int) : D.len [.scr ns] = some (.int ns.length) := rfl
theorem eqI (a b : Int) : D.eq (.int a) (.int b) = some (.bl (decide (a = b))) := by
  show some (D.bl (PyData.eqv (.int a) (.int b))) = _
  simp only [PyData.eqv]
  rfl
theorem neI (a b : Int) : D.ne (.int a) (.int b) = some (.bl (!decide (a = b))) := by
  show some (D.bl (!PyData.eqv (.int a) (.int b))) = _
  simp only [PyData.eqv]
  rfl
@[simp] theorem toTup_l : D.toTup [.lst ds] = some (.tup ds) := rfl
@[simp] theorem toInt_i (a : Int) : D.toInt [.int a] = some (.int a) := rfl
end
/-! ### whatever is drawn -/
/-- m ends well, at every state of the bag, and what it gives has P -/
def Hr {α : Type} (m : M α) (P : α → Prop) : Prop := ∀ bs, ∃ a bs', m bs = some (.ok a, bs') ∧ P a
section
variable {α β : Type} {m : M α} {P : α → Prop} {Q : β → Prop}
theorem Hr.ret {a : α} (h : P a) : Hr (M.ret a) P := fun bs => ⟨a, bs, rfl, h⟩
theorem Hr.bnd {f : α → M β} (h : Hr m P) (k : ∀ a, P a → Hr (f a) Q) : Hr (M.bnd m f) Q := fun bs => by
  obtain ⟨a, b1, e, p⟩ := h bs
  obtain ⟨b, b2, e2, q⟩ := k a p b1
  exact ⟨b, b2, (bnd_ok e).trans e2, q⟩
theorem Hr.mono {P' : α → Prop} (h : Hr m P) (k : ∀ a, P a → P' a) : Hr m P' := fun bs => by
  obtain ⟨a, b1, e, p⟩ := h bs
  exact ⟨a, b1, e, k a p⟩
theorem Hr.calm (h : Hr m P) : Hr (DL.calm m) P := fun bs => by
  obtain ⟨a, b1, e, p⟩ := h bs
  exact ⟨a, b1, by unfold DL.calm; rw [e], p⟩
theorem Hr.eq {m' : M α} (e : m = m') (h : Hr m' P) : Hr m P := by rw [e]; exact h
theorem Hr.if_ {c : Bool} {a b : M α} (h1 : c = true → Hr a P) (h2 : c = false → Hr b P) : Hr (if c = true then a else b) P := by
  cases c with
  | true => exact h1 rfl
  | false => exact h2 rfl
theorem Hr.seq {m1 m2 : Ga → M Fl} {Γ : Ga} {I : Ga → Prop} {P : Fl → Prop} (h : Hr (m1 Γ) fun f => ∃ Γ', f = .nx Γ' ∧ I Γ') (k : ∀ Γ', I Γ' → Hr (m2 Γ') P) : Hr (seqM m1 m2 Γ) P :=
  h.bnd fun f ⟨Γ', e, i⟩ => by subst e; exact k Γ' i
theorem Hr.run {n : Nat} {m : Ga → M Fl} {ds : List D} {P : D → Prop} (h : Hr (m (initG n ds)) fun f => ∃ d, f = .rt d ∧ P d) : Hr (runD n m ds) P := h.bnd fun f ⟨d, e, p⟩ => by subst e; exact Hr.ret p
/-- a loop: the invariant by the number of turns done -/
theorem Hr.forI {st : D → Ga → Option Ga} {body : Ga → M Fl} (I : Nat → Ga → Prop) : ∀ (xs : List D) (i : Nat) (Γ : Ga), I i Γ → (∀ j x Γ, xs[j]? = some x → I (i + j) Γ → ∃ Γ1, st x Γ = some Γ1 ∧ Hr (body Γ1) fun f => ∃ Γ', (f = .nx Γ' ∨ f = .ct Γ') ∧ I (i + j + 1) Γ') →
    Hr (forL st body xs Γ) fun f => ∃ Γ', f = .nx Γ' ∧ I (i + xs.length) Γ'
  | [], i, Γ, h, _ => Hr.ret ⟨Γ, rfl, h⟩
  | x :: xs, i, Γ, h, k => by
    obtain ⟨Γ1, e1, hb⟩ := k 0 x Γ rfl h
    show Hr (M.bnd (opt (st x Γ)) fun Γ1 => M.bnd (body Γ1) (forK (forL st body xs))) _
    rw [e1, bnd_optS]
    refine Hr.bnd hb fun f ⟨Γ', e, i'⟩ => ?_
    have r := Hr.forI I xs (i + 1) Γ' i' fun j y Γ2 hy hi => by
      have := k (j + 1) y Γ2 (by simpa using hy) (by rw [show i + (j + 1) = i + 1 + j by omega]; exact hi)
      rw [show i + (j + 1) + 1 = i + 1 + j + 1 by omega] at this
      exact this
    have r : Hr (forL st body xs Γ') fun f => ∃ Γ', f = .nx Γ' ∧ I (i + (x :: xs).length) Γ' := r.mono fun f ⟨Γ2, e, h⟩ => ⟨Γ2, e, by rw [List.length_cons, show i + (xs.length + 1) = i + 1 + xs.length by omega]; exact h⟩
    rcases e with e | e <;> (subst e; exact r)
/-- .. the invariant the same at every turn -/
theorem Hr.for_ {st : D → Ga → Option Ga} {body : Ga → M Fl} (I : Ga → Prop) (xs : List D) (Γ : Ga) (h : I Γ) (k : ∀ x ∈ xs, ∀ Γ, I Γ → ∃ Γ1, st x Γ = some Γ1 ∧ Hr (body Γ1) fun f => ∃ Γ', (f = .nx Γ' ∨ f = .ct Γ') ∧ I Γ') :
    Hr (forL st body xs Γ) fun f => ∃ Γ', f = .nx Γ' ∧ I Γ' := Hr.forI (fun _ => I) xs 0 Γ h fun j x Γ hx hi => k x (List.mem_of_getElem? hx) Γ hi
/-- a comprehension -/
theorem Hr.comp {st : D → Ga → Option Ga} {mt : Ga → M Bool} {me : Ga → M D} {Γ : Ga} (R : D → D → Prop) : ∀ xs : List D, (∀ x ∈ xs, ∃ Γ1, st x Γ = some Γ1 ∧ Hr (mt Γ1) (fun k => k = true) ∧ Hr (me Γ1) (R x)) → Hr (compL st mt me Γ xs) fun ys => ys.length = xs.length ∧ ∀ y ∈ ys, ∃ x ∈ xs, R x y
  | [], _ => Hr.ret ⟨rfl, fun y hy => by cases hy⟩
  | x :: xs, k => by
    obtain ⟨Γ1, e1, h1, h2⟩ := k x List.mem_cons_self
    show Hr (M.bnd (opt (st x Γ)) fun Γ1 => M.bnd (DL.calm (mt Γ1)) fun k => if k = true then M.bnd (DL.calm (me Γ1)) fun y => M.bnd (compL st mt me Γ xs) fun ys => M.ret (y :: ys) else compL st mt me Γ xs) _
    rw [e1, bnd_optS]
    refine Hr.bnd h1.calm fun k e => ?_
    subst e
    rw [if_pos rfl]
    refine Hr.bnd h2.calm fun y hy => ?_
    refine Hr.bnd (Hr.comp R xs fun z hz => k z (List.mem_cons_of_mem _ hz)) fun ys ⟨hl, hm⟩ => ?_
    refine Hr.ret ⟨by rw [List.length_cons, List.length_cons, hl], fun z hz => ?_⟩
    rcases List.mem_cons.mp hz with e | h
    · subst e
      exact ⟨x, List.mem_cons_self, hy⟩
    · obtain ⟨u, hu, r⟩ := hm z h
      exact ⟨u, List.mem_cons_of_mem _ hu, r⟩
/-- a comprehension that is a map -/
theorem comp_map {st : D → Ga → Option Ga} {mt : Ga → M Bool} {me : Ga → M D} {Γ : Ga} (F : D → D) : ∀ xs : List D, (∀ x ∈ xs, ∃ Γ1, st x Γ = some Γ1 ∧ mt Γ1 = M.ret true ∧ me Γ1 = M.ret (F x)) → compL st mt me Γ xs = M.ret (xs.map F)
  | [], _ => rfl
  | x :: xs, k => by
    obtain ⟨Γ1, e1, h1, h2⟩ := k x List.mem_cons_self
    show (M.bnd (opt (st x Γ)) fun Γ1 => M.bnd (DL.calm (mt Γ1)) fun k => if k = true then M.bnd (DL.calm (me Γ1)) fun y => M.bnd (compL st mt me Γ xs) fun ys => M.ret (y :: ys) else compL st mt me Γ xs) = _
    rw [e1, bnd_optS, h1, calm_ret, bnd_ret, if_pos rfl, h2, calm_ret, bnd_ret, comp_map F xs fun z hz => k z (List.mem_cons_of_mem _ hz)]
    rfl
/-- a loop that is a fold: G the slots by what is carried -/
theorem for_fold {σ : Type} {st : D → Ga → Option Ga} {body : Ga → M Fl} (G : σ → Ga → Prop) (step : σ → D → σ) : ∀ (xs : List D) (s : σ) (Γ : Ga), G s Γ → (∀ x ∈ xs, ∀ s Γ, G s Γ → ∃ Γ1 Γ2, st x Γ = some Γ1 ∧ body Γ1 = M.ret (.nx Γ2) ∧ G (step s x) Γ2) →
    ∃ Γ', forL st body xs Γ = M.ret (.nx Γ') ∧ G (xs.foldl step s) Γ'
  | [], s, Γ, h, _ => ⟨Γ, rfl, h⟩
  | x :: xs, s, Γ, h, k => by
    obtain ⟨Γ1, Γ2, e1, e2, g⟩ := k x List.mem_cons_self s Γ h
    obtain ⟨Γ', e3, g3⟩ := for_fold G step xs (step s x) Γ2 g fun z hz => k z (List.mem_cons_of_mem _ hz)
    refine ⟨Γ', ?_, g3⟩
    show (M.bnd (opt (st x Γ)) fun Γ1 => M.bnd (body Γ1) (forK (forL st body xs))) = _
    rw [e1, bnd_optS, e2, bnd_ret, forK_nx, e3]
/-- a loop by the number of turns done -/
theorem for_ix {st : D → Ga → Option Ga} {body : Ga → M Fl} (G : Nat → Ga → Prop) : ∀ (xs : List D) (i : Nat) (Γ : Ga), G i Γ → (∀ j x Γ, xs[j]? = some x → G (i + j) Γ → ∃ Γ1 Γ2, st x Γ = some Γ1 ∧ body Γ1 = M.ret (.nx Γ2) ∧ G (i + j + 1) Γ2) →
    ∃ Γ', forL st body xs Γ = M.ret (.nx Γ') ∧ G (i + xs.length) Γ'
  | [], i, Γ, h, _ => ⟨Γ, rfl, h⟩
  | x :: xs, i, Γ, h, k => by
    obtain ⟨Γ1, Γ2, e1, e2, g⟩ := k 0 x Γ rfl h
    obtain ⟨Γ', e3, g3⟩ := for_ix G xs (i + 1) Γ2 g fun j y Γ2 hy hi => by
      have := k (j + 1) y Γ2 (by simpa using hy) (by rw [show i + (j + 1) = i + 1 + j by omega]; exact hi)
      rw [show i + (j + 1) + 1 = i + 1 + j + 1 by omega] at this
      exact this
    refine ⟨Γ', ?_, by rw [List.length_cons, show i + (xs.length + 1) = i + 1 + xs.length by omega]; exact g3⟩
    show (M.bnd (opt (st x Γ)) fun Γ1 => M.bnd (body Γ1) (forK (forL st body xs))) = _
    rw [e1, bnd_optS, e2, bnd_ret, forK_nx, e3]
end
/-! ### ints, digits -/
def sortI (w : List Int) : List Int := w.mergeSort fun a b => dLe (.int a) (.int b)
theorem sortD_ints (w : List Int) : sortD (w.map D.int) = (sortI w).map D.int := by
  unfold sortD sortI
  exact (List.map_mergeSort (f := D.int) (r := fun a b => dLe (.int a) (.int b)) (s := dLe) fun _ _ _ _ => rfl).symm
theorem sortI_length (w : List Int) : (sortI w).length = w.length := by unfold sortI; exact List.length_mergeSort _
theorem sortI_mem {w : List Int} {x : Int} : x ∈ sortI w ↔ x ∈ w := by unfold sortI; exact List.mem_mergeSort
theorem okEs_ints (n : Nat) : ∀ w : List Int, okEs n (w.map D.int) = true
  | [] => by simp [okEs]
  | a :: w => by simp [okEs, okE]; simpa using okEs_ints n w
theorem sortable_ints (w : List Int) : sortable (w.map D.int) = true := by
  unfold sortable
  rw [okEs_ints]
  simp [py]
  exact fun a _ b _ => rfl
theorem eqv_ints : ∀ w : List Int, PyData.eqvAll (pys (w.map D.int)) (pys (w.map D.int)) = true
  | [] => by simp [pys, PyData.eqvAll]
  | a :: w => by simp [pys, py, PyData.eqvAll, PyData.eqv]; simpa using eqv_ints w
/-- the text of a row: its scores below ten -/
def rowS (l : List Nat) : Str := ⟨(l.map fun s => 48 + s).toArray⟩
theorem rowS_length (l : List Nat) : (rowS l).length = l.length := by simp [rowS, Str.length]
theorem rowS_sgn (l : List Nat) : sgnL (rowS l) = l.map fun s => D.str ⟨#[48 + s]⟩ := by simp [sgnL, rowS]
theorem rowS_append (l r : List Nat) : rowS l ++ rowS r = rowS (l ++ r) := by
  show (⟨(rowS l).cps ++ (rowS r).cps⟩ : Str) = _
  simp [rowS]
theorem toInt_digit {s : Nat} (h : s ≤ 3) : D.toInt [.str ⟨#[48 + s]⟩] = some (.int s) := by
  rcases (by omega : s = 0 ∨ s = 1 ∨ s = 2 ∨ s = 3) with e | e | e | e <;> subst e <;> kernel_rfl
/-- the last m -/
theorem cut_last {α : Type} (xs : List α) (m : Nat) (h : 0 < m) : cutL xs (some (-(m : Int))) none = xs.drop (xs.length - m) := by
  unfold cutL
  have e : HT.sIx xs.length 0 (some (-(m : Int))) = xs.length - m := by
    show (if (-(m : Int)) < 0 then ((-(m : Int)) + (xs.length : Int)).toNat else _) = _
    rw [if_pos (by omega)]
    omega
  rw [e]
  show List.take (xs.length - (xs.length - m)) (List.drop (xs.length - m) xs) = _
  rw [List.take_of_length_le]
  rw [List.length_drop]
  exact Nat.le_refl _
theorem cut_take {α : Type} (xs : List α) (m : Nat) : cutL xs none (some (m : Int)) = xs.take m := by
  unfold cutL
  show List.take (HT.sIx xs.length xs.length (some (m : Int)) - 0) (List.drop 0 xs) = _
  rw [HT.sIx_nat, Nat.sub_zero, List.drop_zero]
  by_cases c : m ≤ xs.length
  · rw [Nat.min_eq_left c]
  · rw [Nat.min_eq_right (by omega), List.take_of_length_le (Nat.le_refl _), List.take_of_length_le (by omega)]
theorem cutL_map {α β : Type} (f : α → β) (xs : List α) (lo hi : Option Int) : cutL (xs.map f) lo hi = (cutL xs lo hi).map f := by
  unfold cutL
  rw [List.length_map, ← List.map_drop, ← List.map_take]
theorem cutS_row (l : List Nat) (lo hi : Option Int) : cutS (rowS l) lo hi = rowS (cutL l lo hi) := by
  unfold cutS rowS cutL Str.length
  simp only [List.size_toArray, List.length_map]
  rw [← List.map_drop, ← List.map_take]
/-- the window slides -/
theorem last_slide {α : Type} (xs : List α) (x : α) (m : Nat) (h : 0 < m) : (xs.drop (xs.length - m) ++ [x]).drop ((xs.drop (xs.length - m) ++ [x]).length - m) = (xs ++ [x]).drop ((xs ++ [x]).length - m) := by
  simp only [List.length_append, List.length_drop, List.length_cons, List.length_nil]
  by_cases c : xs.length < m
  · rw [show xs.length - m = 0 by omega, List.drop_zero, Nat.sub_zero]
  · rw [show xs.length - (xs.length - m) + (0 + 1) - m = 1 by omega, show xs.length + (0 + 1) - m = (xs.length - m) + 1 by omega, ← List.drop_drop]
    congr 1
    rw [List.drop_append_of_le_length (by omega)]
end DL

set_option Elab.async false
set_option linter.all false
set_option maxRecDepth 100000
set_option maxHeartbeats 400000
/-! A list's and a zip's end while an exception is handled. -/
namespace DLS
open PySem PySem.Spec PyProof.Rows
section
variable {prog : Program} {w : World} {A : Around} {E : Value → Shared → Prop} {s : Shared}
theorem next_end_hot {it l x1 : Addr} {i : Nat} {items : Array Value} {Q : Value → Shared → Prop} (hot : HotX.HotAt A x1 s.heap) (hne : x1 ≠ it) (hit : s.heap.IsListIter it l i) (hl : s.heap.IsList l items) (hx : items[i]? = none)
    (hE : ∀ h' e, Heap.ExtBut it s.heap h' → (∃ o, h'.get? e = some o ∧ o.cls = .type "StopIteration") → E (.ref e) { s with heap := h' }) : wpAny (model prog w) A (Builtin.SmallTypes.nextOf (.ref it)) Q E s := by
  obtain ⟨o, ho, hc, hd⟩ := id hit
  obtain ⟨ol, hol, _, nl, hdl⟩ := hl
  obtain ⟨hh, o1, vs1, h1, d1, c1⟩ := hot
  unfold Builtin.SmallTypes.nextOf
  refine wpAny_bind (wpAny_callSpecial?_slot hit.typeIs PySem.slot_listiter_next (name := Str.ofString "__next__") (wpAny_call_entry PySem.slot_listiter_next hit.typeIs PySem.entry_listiter_next ?_ (PySem.args_listiter_next _)))
  show wpAny _ _ (field (.ref it) 0 >>= _) _ _ s
  refine wpAny_bind (wpAny_field (x := .ref l) ho hd rfl ?_)
  show wpAny _ _ (if (Value.ref l == Value.none) = true then _ else _) _ _ s
  have nr : ¬ (Value.ref l == Value.none) = true := fun z => Bool.false_ne_true z
  rw [if_neg nr]
  show wpAny _ _ (field (.ref it) 1 >>= _) _ _ s
  refine wpAny_bind (wpAny_field (x := .int i 0) ho hd rfl ?_)
  show wpAny _ _ (seqItems? (.ref l) >>= _) _ _ s
  refine wpAny_bind (wpAny_seqItems hol hdl ?_)
  simp only [hx, Int.toNat_natCast]
  refine wpAny_bind (wpAny_rule (wpAny_bind (wpAny_setField ho hd (by simp) ?_)))
  generalize hh2 : s.heap.update it (Obj.mapFields (·.setIfInBounds 0 Value.none)) = h2
  have k1 : h2.get? x1 = some o1 := by rw [← hh2, Heap.get?_update_other _ _ (Ne.symm hne)]; exact h1
  have kb : Heap.ExtBut it s.heap h2 := by rw [← hh2]; exact (Heap.SameBut.update ..).extBut
  refine wpAny_bind ?_
  simp only [newTuple, newExc]
  refine wpAny_bind (wpAny_newObj_type ?_ (by size_fits))
  refine wpAny_bind (m := firstArgMember _ _) (wpAny_of_eq (a := Value.none) (by first | (simp only [firstArgMember]; rfl) | rfl) ?_)
  refine wpAny_newObj_type ?_ (by size_fits)
  have k2 : ∀ p q : Obj, ((h2.push p).push q).get? x1 = some o1 := fun p q => Heap.get?_push_of_some _ (Heap.get?_push_of_some _ k1)
  refine HotX.raiseNew_hot (A := A.in1) ⟨hh, o1, vs1, k2 _ _, d1, c1⟩ (Nat.ne_of_lt (Heap.lt_size (Heap.get?_push_of_some _ k1))) (Heap.get?_push_size _ rfl) rfl (by first | (simp; done) | (simp; omega)) ?_
  refine hE _ _ (fun b o nb q => ?_) ⟨_, Heap.get?_update_self _ (Heap.get?_push_size _ rfl) rfl, rfl⟩
  have q2 := kb b o nb q
  show (((h2.push _).push _).update _ _).get? b = some o
  rw [Heap.get?_update_other _ _ (Nat.ne_of_gt (Heap.lt_size (Heap.get?_push_of_some _ q2)))]
  exact Heap.get?_push_of_some _ (Heap.get?_push_of_some _ q2)
/-- a list drawn while x1 is handled -/
theorem draws_hot (x1 it l : Addr) (hh : A.handled = some (.ref x1)) (n1 : x1 ≠ it) (hne : l ≠ it) (items : Array Value) :
    Draws prog w A it [it, l, x1] items.size (fun i v => items[i]? = some v) (fun i h => h.IsListIter it l i ∧ h.IsList l items ∧ HotX.HotAt A x1 h) where
  live := fun _ _ st => let ⟨o, ho, _⟩ := st.1; ⟨o, ho⟩
  frame := fun _ _ _ st hk => ⟨st.1.at fun o e => hk it (by simp) o e, st.2.1.at fun o e => hk l (by simp) o e, st.2.2.1, by
    obtain ⟨_, o, vs, e, r⟩ := st.2.2
    exact ⟨o, vs, hk x1 (by simp) o e, r⟩⟩
  item := fun i s Q E hi st hQ => by
    refine wpAny_nextOf_list_item st.1 st.2.1 (x := items[i]) (by simp [hi]) fun h' hit' hs' => ?_
    refine hQ _ h' s.toks (by simp [hi]) ⟨hit', st.2.1.extBut hs'.extBut hne, st.2.2.1, ?_⟩ hs'
    obtain ⟨_, o, vs, e, r⟩ := st.2.2
    exact ⟨o, vs, hs'.extBut _ _ n1 e, r⟩
  done := fun s Q E st hE => next_end_hot st.2.2 n1 st.1 st.2.1 (by simp) hE
end
end DLS

set_option Elab.async false
set_option linter.all false
set_option maxRecDepth 100000
set_option maxHeartbeats 400000
/-! A comprehension over zip of two lists while the exception at x1 is handled. -/
namespace DL
open PySem PySem.Spec PyProof.Rows L2 HotX
/-- the turns of a walk, x1 handled -/
structure TurnX (x1 : Addr) (P : Program) (w : World) (K : PySem.W.Frag) (tg : Expr) (J : It) (fp : List Addr) (it : Addr) (tn : Nat → Heap → Prop) : Prop where
  obj : ∀ i h, tn i h → ∀ b ∈ fp, ∃ o, h.get? b = some o ∧ ∀ v, o.data ≠ .cell v
  keep : ∀ i h h', tn i h → (∀ b ∈ fp, ∀ o, h.get? b = some o → h'.get? b = some o) → tn i h'
  item : ∀ (X : Cx), X.prog = P → X.w = w → X.K = K → ∀ (i : Nat) (pins : List (Addr × Obj)) (s : Shared) (σ : L2.St) (H : Hp) (E : Value → Shared → Prop), HotAt X.A x1 s.heap → Inv X pins σ H s → (∀ b ∈ fp, FpOk X pins H b) → tn i s.heap → J.go i H →
    wpAny (model P w) X.A (pyNext (.ref it)) (fun r s1 => ∃ u, r = some u ∧ wpAny (model P w) X.A (letOwnedTupleGo tg (.ref it) u) (fun _ s2 => ∃ x H', Inv X pins σ H' s2 ∧ RelV x u ∧ J.yld i H x H' ∧ tn (i + 1) s2.heap ∧ ∀ b ∈ fp, H' b = none) E s1) E s
  done : ∀ (X : Cx), X.prog = P → X.w = w → X.K = K → ∀ (i : Nat) (pins : List (Addr × Obj)) (s : Shared) (σ : L2.St) (H : Hp) (E : Value → Shared → Prop), HotAt X.A x1 s.heap → Inv X pins σ H s → (∀ b ∈ fp, FpOk X pins H b) → tn i s.heap → J.stop i H →
    wpAny (model P w) X.A (pyNext (.ref it)) (fun r s1 => r = none ∧ Inv X pins σ H s1) E s
  self : ∀ (A : Around) (i : Nat) (s : Shared) (Q : Value → Shared → Prop) (E : Value → Shared → Prop), tn i s.heap → Q (.ref it) s → wpAny (model P w) A (pyIter (.ref it)) Q E s
section
variable {X : Cx} {pins : List (Addr × Obj)} {σ : L2.St} {H : Hp} {s : Shared}
/-- a list's draws -/
theorem hot_draws {x1 J a : Addr} {i : Nat} {xs : List V} (I : Inv X pins σ H s) (hot : HotAt X.A x1 s.heap) (n1 : x1 ≠ J) (h : SqL X.K H a xs) (q : s.heap.IsListIter J a i) :
    ∃ (P : Nat → Value → Prop) (St : Nat → Heap → Prop), Draws X.prog X.w X.A.in1 J [J, a, x1] xs.length P St ∧ St i s.heap ∧ (∀ j h, St j h → h.IsListIter J a j) ∧ ∀ j u, P j u → ∃ x, xs[j]? = some x ∧ RelV x u := by
  obtain ⟨its, rv, p, _⟩ := I.list h
  have na : a ≠ J := fun e => by
    obtain ⟨o, n, ho, hc, _⟩ := id p
    obtain ⟨o', e', c', _⟩ := id q
    rw [e, e'] at ho
    cases ho
    rw [c'] at hc
    exact absurd hc (by decide)
  have hl := rv.length
  have D := DLS.draws_hot (prog := X.prog) (w := X.w) (A := X.A.in1) x1 J a hot.1 n1 na its.toArray
  rw [List.size_toArray, ← hl] at D
  refine ⟨_, _, D, ⟨q, p.isList, hot.1, hot.2⟩, fun j h st => st.1, fun j u hu => ?_⟩
  have hu' : its[j]? = some u := by simpa using hu
  obtain ⟨hj, he⟩ := List.getElem?_eq_some_iff.mp hu'
  have hj' : j < xs.length := by omega
  obtain ⟨w, h1, h2⟩ := rv.get (List.getElem?_eq_getElem hj')
  rw [hu'] at h1
  cases h1
  exact ⟨xs[j], List.getElem?_eq_getElem hj', h2⟩
theorem it_obj {h : Heap} {J a : Addr} {i : Nat} (q : h.IsListIter J a i) : ∃ o, h.get? J = some o ∧ ∀ u, o.data ≠ .cell u := by
  obtain ⟨o, e, _, d⟩ := q
  exact ⟨o, e, fun u z => by rw [d] at z; cases z⟩
theorem zip_members {h : Heap} {z TI TO i1 i2 a b : Addr} {x y : Value} {i : Nat} (hz : IsZip h z TI TO .none) (hTI : IsTupOf2 h TI (.ref i1) (.ref i2)) (hTO : IsTupOf2 h TO x y) (h1 : h.IsListIter i1 a i) (h2 : h.IsListIter i2 b i) : ∀ c ∈ [z, TI, TO, i1, i2], ∃ o, h.get? c = some o ∧ ∀ v, o.data ≠ .cell v := fun c hc => by
  have e' : c = z ∨ c = TI ∨ c = TO ∨ c = i1 ∨ c = i2 := by simpa using hc
  rcases e' with q | q | q | q | q <;> subst q
  · exact ⟨_, hz, fun v q => nomatch q⟩
  · exact ⟨_, hTI, fun v q => nomatch q⟩
  · exact ⟨_, hTO, fun v q => nomatch q⟩
  · exact it_obj h1
  · exact it_obj h2
theorem turn_zipX {x1 : Addr} {P : Program} {w : World} {K : PySem.W.Frag} {elts : List Expr} {kk : Nat} {tpos : Pos} {a b z TI TO i1 i2 : Addr} (S : ZipSep2 z TI TO i1 i2 [i1, a, x1] [i2, b, x1]) :
    TurnX x1 P w K (.Tuple elts kk tpos) (ItzA K (.lst a) (.lst b)) [z, TI, TO, i1, i2] z (fun i h => IsZip h z TI TO .none ∧ IsTupOf2 h TI (.ref i1) (.ref i2) ∧ (∃ x y, IsTupOf2 h TO x y) ∧ h.IsListIter i1 a i ∧ h.IsListIter i2 b i) where
  obj := fun i h ⟨hz, hTI, ⟨x, y, hTO⟩, h1, h2⟩ => zip_members hz hTI hTO h1 h2
  keep := fun i h h' ⟨hz, hTI, ⟨x, y, hTO⟩, h1, h2⟩ k => ⟨k z (by simp) _ hz, k TI (by simp) _ hTI, ⟨x, y, k TO (by simp) _ hTO⟩, h1.at fun o q => k i1 (by simp) o q, h2.at fun o q => k i2 (by simp) o q⟩
  item := by
    intro X hP hw hK i pins s σ H E hot I hf st hg
    subst hP hw hK
    obtain ⟨hz, hTI, ⟨x0, y0, hTO⟩, h1, h2⟩ := st
    have mem := zip_members hz hTI hTO h1 h2
    obtain ⟨xs, ys, hqx, hqy, hx, hy⟩ := hg
    have nx1 : x1 ≠ i1 := fun e => S.sep1_2 (by rw [← e]; simp)
    have nx2 : x1 ≠ i2 := fun e => S.sep2_1 (by rw [← e]; simp)
    obtain ⟨P1, St1, D1, q1, b1, r1⟩ := hot_draws I hot nx1 hqx h1
    obtain ⟨P2, St2, D2, q2, b2, r2⟩ := hot_draws I hot nx2 hqy h2
    have hzl : z < s.heap.objs.size := Heap.lt_size hz
    refine wpAny_pyNext_zipD2_item S D1 D2 hz hTI hTO q1 q2 hx hy fun u u2 g tk p1 p2 z' TO' s1' s2' hT hsz hk => ?_
    obtain ⟨x, hxi, rx⟩ := r1 i u p1
    obtain ⟨y, hyi, ry⟩ := r2 i u2 p2
    refine ⟨_, rfl, wpAny_letOwnedTupleGo_zip (s := { s with heap := g, toks := tk }) z' fun g2 z'' sb => ?_⟩
    have hT2 : g2.get? s.heap.objs.size = some { cls := .type "tuple", data := .seq #[u, u2] } := (sb.2 _ (Nat.ne_of_gt hzl)).trans hT
    have kk2 : ∀ c o, c ∉ [z, TI, TO, i1, i2] → s.heap.get? c = some o → g2.get? c = some o := fun c o hb q =>
      (sb.2 c (fun e => hb (by simp [e]))).trans (hk c o (fun e => hb (by simp [e])) (fun e => hb (by simp [e])) (fun e => hb (by simp [e])) (fun e => hb (by simp [e])) q)
    have new : ObjOk X.prog X.w (upd H s.heap.objs.size (.tup [x, y])) g2 s.heap.objs.size (.tup [x, y]) := ⟨(by show 2 ≤ sizeLine; decide), [u, u2], .cons rx (.cons ry .nil), ⟨_, hT2, rfl, _, rfl⟩⟩
    have J1 : Inv X pins σ (upd H s.heap.objs.size (.tup [x, y])) { s with heap := g2, toks := tk } := I.turnedNew (ch := [z, TI, TO, i1, i2]) kk2 hf (Nat.le_refl _) new
    refine ⟨.ref s.heap.objs.size, _, J1, rfl, ⟨_, x, y, rfl, I.hok.fresh (Nat.le_refl _), rfl, fun l hl => by rw [I.list_inj hl hqx]; exact hxi, fun l hl => by rw [I.list_inj hl hqy]; exact hyi⟩, ⟨z'', ?_, ⟨u, u2, (sb.2 _ S.TOz).trans TO'⟩, ?_, ?_⟩, fun c hcm => ?_⟩
    · exact (sb.2 _ S.TIz).trans (hk _ _ S.TIz S.TITO S.TIi1 S.TIi2 hTI)
    · exact (b1 _ _ s1').at fun o q => (sb.2 _ S.zi1.symm).trans q
    · exact (b2 _ _ s2').at fun o q => (sb.2 _ S.zi2.symm).trans q
    · obtain ⟨o, e, _⟩ := mem c hcm
      rw [upd_ne (Nat.ne_of_lt (Heap.lt_size e))]
      exact (hf c hcm).1
  done := by
    intro X hP hw hK i pins s σ H E hot I hf st hg
    subst hP hw hK
    obtain ⟨hz, hTI, ⟨x0, y0, hTO⟩, h1, h2⟩ := st
    obtain ⟨xs, ys, hqx, hqy, hx, hy, hend⟩ := hg
    have nx1 : x1 ≠ i1 := fun e => S.sep1_2 (by rw [← e]; simp)
    have nx2 : x1 ≠ i2 := fun e => S.sep2_1 (by rw [← e]; simp)
    obtain ⟨P1, St1, D1, q1, b1, r1⟩ := hot_draws I hot nx1 hqx h1
    obtain ⟨P2, St2, D2, q2, b2, r2⟩ := hot_draws I hot nx2 hqy h2
    exact wpAny_pyNext_zipD2_end S D1 D2 hz hTI hTO q1 q2 hx hy hend fun g tk hk => ⟨rfl, I.turnedL (ch := [z, TI, TO, i1, i2]) (fun c o hb q =>
      hk c o (fun e => hb (by simp [e])) (fun e => hb (by simp [e])) (fun e => hb (by simp [e])) (fun e => hb (by simp [e])) q) hf⟩
  self := fun A i s Q E st h => wpAny_pyIter_zip st.1 h
/-- an iterator has come, x1 handled -/
def PIX (x1 : Addr) (X : Cx) (pins : List (Addr × Obj)) (σ : L2.St) (tg : Expr) (R : It → Hp → Prop) (itv : Value) (s2 : Shared) : Prop :=
  ∃ (it : Addr) (fp : List Addr) (tn : Nat → Heap → Prop) (J : It) (H' : Hp), itv = .ref it ∧ Inv X pins σ H' s2 ∧ TurnX x1 X.prog X.w X.K tg J fp it tn ∧ tn 0 s2.heap ∧ (∀ b ∈ fp, FpOk X pins H' b) ∧ R J H'
/-- zip(e1, e2) of two lists, in a context that holds x1's exception -/
theorem zip_comes {x1 : Addr} {ox : Obj} {e e2 : Expr} {ta : TA} {p pos tpos : Pos} {elts : List Expr} {kk : Nat} (hx1 : (x1, ox) ∈ X.pn) (hg : Gl X "zip") (hm : X.mg "zip" = none) (ha : PA X [e, e2] ta) {R : It → Hp → Prop} (I : Inv X pins σ H s)
    (h : ta σ H fun vs H1 => ∃ (a b : Addr) (xs ys : List V), vs = [.ref a, .ref b] ∧ SqL X.K H1 a xs ∧ SqL X.K H1 b ys ∧ R (ItzA X.K (.lst a) (.lst b)) H1)
    (hs : starEach [e, e2] X.env = (false, eval e X.env) :: starEach [e2] X.env := by rfl) (hpl : (backTo pos (starEach [e2] X.env)).any (·.1) = false := by rfl) :
    wpAny (model X.prog X.w) X.A (eval (.Call (.Name "zip" p) [e, e2] [] pos) X.env) (fun v s1 => wpAny (model X.prog X.w) X.A (pyIter v) (PIX x1 X pins σ (.Tuple elts kk tpos) R) X.xe s1) X.xe s := by
  refine Call_ (ld_blt I hg hm PyProof.Rows.boot_zip (PyProof.Rows.callWith_type1 (thn (ha.run pos pins s σ H _ I h) fun us s1 ⟨vs, H1, I1, r1, q1⟩ => ?_) hs hpl))
  obtain ⟨a, b, xs, ys, ex, hqx, hqy, q⟩ := q1
  subst ex
  cases r1 with
  | cons r rr =>
    cases rr with
    | cons r' rr =>
      cases rr
      obtain ⟨o1, Hc1, B1, c1, n1, f1⟩ := Zv.begins (z := .lst a) I1 hqx r
      obtain ⟨o2, Hc2, B2, c2, n2, f2⟩ := Zv.begins (z := .lst b) I1 hqy r'
      refine zip_begins2 B1 B2 c1 c2 fun g hz hTI hTO h1 h2 hsz hk => wpAny_pyIter_zip hz ?_
      have I2 : Inv X pins σ H1 { s1 with heap := g } := I1.kept (t' := s1.toks) hk
      obtain ⟨w1, g1, l1⟩ := f1 s1.heap.objs.size
      obtain ⟨w2, g2, l2⟩ := f2 (s1.heap.objs.size + 1)
      have lx : x1 < s1.heap.objs.size := Heap.lt_size (I1.pin (x1, ox) (List.mem_append_left _ hx1)).1
      have w1e : w1 = [a] := by
        have : [s1.heap.objs.size, a] = s1.heap.objs.size :: w1 := g1
        exact (List.cons.inj this).2.symm
      have w2e : w2 = [b] := by
        have : [s1.heap.objs.size + 1, b] = (s1.heap.objs.size + 1) :: w2 := g2
        exact (List.cons.inj this).2.symm
      subst w1e w2e
      have S : ZipSep2 (s1.heap.objs.size + 4) (s1.heap.objs.size + 2) (s1.heap.objs.size + 3) s1.heap.objs.size (s1.heap.objs.size + 1) [s1.heap.objs.size, a, x1] [s1.heap.objs.size + 1, b, x1] :=
        zip_sep2 (fun c hc => by
          rcases List.mem_cons.mp hc with e | hc
          · rw [e]; exact l1 a (by simp)
          · rw [List.mem_singleton.mp hc]; exact lx) (fun c hc => by
          rcases List.mem_cons.mp hc with e | hc
          · rw [e]; exact l2 b (by simp)
          · rw [List.mem_singleton.mp hc]; exact lx)
      refine ⟨s1.heap.objs.size + 4, [s1.heap.objs.size + 4, s1.heap.objs.size + 2, s1.heap.objs.size + 3, s1.heap.objs.size, s1.heap.objs.size + 1], _, _, H1, rfl, I2, turn_zipX S, ⟨hz, hTI, ⟨_, _, hTO⟩, n1 _ _ h1, n2 _ _ h2⟩, fun c hcm => ?_, q⟩
      have hle : s1.heap.objs.size ≤ c := by
        simp only [List.mem_cons, List.not_mem_nil, or_false] at hcm
        rcases hcm with e | e | e | e | e <;> rw [e] <;> first | exact Nat.le_add_right _ _ | exact Nat.le_refl _
      exact I1.fpOk hle (I1.hok.fresh hle)
end
end DL

set_option Elab.async false
set_option linter.all false
set_option maxRecDepth 100000
set_option maxHeartbeats 400000
/-! A list comprehension while an exception is handled. -/
namespace DL
open PySem PySem.Spec PyProof.Rows L2 HotX
abbrev BlkX (X : Cx) (scope : Scope) (s : Shared) (H : Hp) (fp : List Addr) : Cx := X.blk s H scope (compEnvC scope (cellsFrom (s.heap.objs.size + 1) scope.names (cloFrom X.env.cells scope.names [])) s.heap.objs.size X.env) fp
/-- x1's object stands beside what the block tracks and changes -/
def HotB (x1 : Addr) (ox : Obj) (X : Cx) (s : Shared) (H : Hp) (fp : List Addr) : Prop := s.heap.get? x1 = some ox ∧ H x1 = none ∧ x1 ∉ frs X.stack ∧ x1 ∉ fp
section
variable {X : Cx}
/-- what iter gives, x1 handled -/
def ComesX (x1 : Addr) (X : Cx) (tg iter : Expr) (wi : TI) : Prop := ∀ (pins : List (Addr × Obj)) (s : Shared) (σ : L2.St) (H : Hp) (R : It → Hp → Prop), Inv X pins σ H s → wi σ H R →
  wpAny (model X.prog X.w) X.A (eval iter X.env) (fun v s1 => wpAny (model X.prog X.w) X.A (pyIter v) (PIX x1 X pins σ tg R) X.xe s1) X.xe s
theorem pe_lcX {x1 : Addr} {ox : Obj} {elt tg iter : Expr} {ifs : List Expr} {scope : Scope} {own : List (Str × Nat)} {pos : Pos} {wi : TI} {g : TG} {tt : TT} {te : TE} (hx : L2H.Hot1 X.A (x1, ox)) (hp : (x1, ox) ∈ X.pn) (hN : X.N.Nodup) (hi : ComesX x1 X tg iter wi)
    (ok : BlkOk X.N X.env.scope scope own) (hg : ∀ s H fp, HotB x1 ox X s H fp → PG (BlkX X scope s H fp) tg g) (ht : ∀ s H fp, PTs (BlkX X scope s H fp) ifs tt) (he : ∀ s H fp, PE (BlkX X scope s H fp) elt te) (hs : ∀ x, foldedSetIterable iter X.env x = pure x := by intro _; rfl) :
    PE X (.ListComp elt [⟨tg, iter, ifs, 0⟩] scope pos) (tLc wi g tt te (own.map (·.2))) := by
  refine ⟨fun pins s σ H Q I h => ?_⟩
  rw [eval_ListComp]
  have cl : ∀ y ∈ scope.names, y.2 = .free → ∃ c, X.env.cells.lookup y.1 = some c := fun y hy e => (ok.free y hy e).elim (fun k => I.ok.has _ (.inl k)) fun k => I.ok.has _ (.inr k)
  refine wpAny_comprehension_free rfl hs (closure_ok cl) ok.kind (fun y hy e => (ok.uniq y hy).trans (by rw [e])) (thn (hi pins s σ H _ I h) fun v0 r1 c1 => thn c1 fun v1 r2 c2 => ?_)
  obtain ⟨it, fp, tn, J, G2, e, I2, T, t2, f2, q⟩ := c2
  subst e
  refine wpAny_newObj_type (newEnv_comp ?_) (by show 0 ≤ sizeLine; decide)
  -- the new list, at L
  have nL : G2 r2.heap.objs.size = none := I2.hok.fresh (Nat.le_refl _)
  obtain ⟨W, ⟨m0, w0⟩, turn⟩ := q r2.heap.objs.size nL
  have I3 : Inv X pins σ (upd G2 r2.heap.objs.size (.lst [])) { r2 with heap := r2.heap.push { cls := .type "list", data := .seq ([] : List Value).toArray } } :=
    I2.laid (t' := r2.toks) (fun b o e => Heap.get?_push_of_some _ e) (Nat.le_refl _) ⟨Nat.zero_le _, [], 0, .nil, Heap.get?_push_size _ rfl⟩
  have lt : ∀ b ∈ fp, b < r2.heap.objs.size := fun b hb => (T.obj _ _ t2 b hb).elim fun o e => Heap.lt_size e.1
  have t3 : tn 0 (r2.heap.push { cls := .type "list", data := .seq ([] : List Value).toArray }) := T.keep _ _ _ t2 fun b _ o e => Heap.get?_push_of_some _ e
  generalize hr3 : ({ r2 with heap := r2.heap.push { cls := .type "list", data := .seq ([] : List Value).toArray } } : Shared) = r3 at I3
  have h3 : r3.heap = r2.heap.push { cls := .type "list", data := .seq ([] : List Value).toArray } := by rw [← hr3]
  rw [← h3] at t3
  generalize hL : r2.heap.objs.size = L at *
  have f3 : ∀ b ∈ fp, FpOk X pins (upd G2 L (.lst [])) b ∧ b < r3.heap.objs.size := fun b hb => by
    refine ⟨⟨by rw [upd_ne (Nat.ne_of_lt (lt b hb))]; exact (f2 b hb).1, (f2 b hb).2⟩, ?_⟩
    rw [h3, Heap.size_push, hL]
    exact Nat.lt_succ_of_lt (lt b hb)
  have w0 : W 0 m0 (upd G2 L (.lst [])) := w0
  generalize hG3 : upd G2 L (.lst []) = G3 at *
  have pin1 := I3.pin (x1, ox) (List.mem_append_left _ hp)
  have I4 := block_start I3 ok hN f3
  have hB : HotB x1 ox X r3 G3 fp := ⟨pin1.1, pin1.2.1, fun z => (List.mem_cons.mp (I3.stkSub x1 z)).elim pin1.2.2.1 pin1.2.2.2.1, fun z => (f3 x1 z).1.2.2.2.2.2 (x1, ox) (List.mem_append_left _ hp) rfl⟩
  have hotY : ∀ {σ' : L2.St} {H' : Hp} {s' : Shared} {pn' : List (Addr × Obj)}, Inv (BlkX X scope r3 G3 fp) pn' σ' H' s' → HotAt X.A x1 s'.heap := fun {σ' H' s' pn'} I' => by
    obtain ⟨hh, vs, e1, e2⟩ := hx
    exact ⟨hh, ox, vs, I'.base.keep x1 ox hB.1 hB.2.1 hB.2.2.1 hB.2.2.2, e1, e2⟩
  have nfp : ∀ b ∈ fp, G3 b = none := fun b hb => (f3 b hb).1.1
  have stat : ∀ {σ' : L2.St} {H' : Hp} {s' : Shared}, Inv (BlkX X scope r3 G3 fp) [] σ' H' s' → (∀ b ∈ fp, H' b = none) → ∀ b ∈ fp, FpOk (BlkX X scope r3 G3 fp) [] H' b := fun {σ' H' s'} I' hn b hb =>
    ⟨hn b hb, (I'.ok.exf b hb).1, I'.ok.exfs b hb, .inl hb, (I'.ok.exf b hb).2, fun p z => by cases z⟩
  have t4 : tn 0 (pushCells (r3.heap.push { cls := .type "dict", data := .dict #[] }) scope.names) := T.keep _ _ _ t3 fun b _ o e => pushCells_keeps _ _ _ _ (Heap.get?_push_of_some _ e)
  have loop : codeAny (model X.prog X.w) X.A (.compLoop (.ListComp elt [⟨tg, iter, ifs, 0⟩] scope pos) 0 (.ref it) (.ref L) (BlkX X scope r3 G3 fp).env) (compPost (model X.prog X.w) X.A X.xe none (EP X pins σ Q) (.ref L) r3.heap.objs.size)
      { r3 with heap := pushCells (r3.heap.push { cls := .type "dict", data := .dict #[] }) scope.names } := by
    refine compLoop_any (fun n s' => ∃ i H', Inv (BlkX X scope r3 G3 fp) [] (wipe σ (own.map (·.2))) H' s' ∧ tn i s'.heap ∧ (∀ b ∈ fp, H' b = none) ∧ W i n H') ?_ m0 ⟨0, G3, I4, t4, nfp, w0⟩
    rintro n r5 ⟨i, G5, I5, t5, n5, w5⟩
    rcases turn i n G5 w5 with ⟨stop, qq⟩ | ⟨go, Nx, hNx, step⟩
    · refine thnF (T.done (BlkX X scope r3 G3 fp) rfl rfl rfl i [] r5 _ G5 (fun _ _ => False) (hotY I5) I5 (stat I5 n5) t5 stop) fun r r6 ⟨hr, I6⟩ => ?_
      subst hr
      have I7 : Inv X pins σ G5 r6 := I3.call' (ch := fp) I6.os I6.base I6.hok I6.bare fun b hb => ⟨(f3 b hb).1.2.2.2.1, (f3 b hb).1.2.1, (f3 b hb).1.2.2.2.2.1, (f3 b hb).1.2.2.2.2.2⟩
      have nC : G5 r3.heap.objs.size = none := I6.free
      obtain ⟨m, hn, _⟩ := I6.loc
      have hn : r6.heap.Ns r3.heap.objs.size m := hn
      obtain ⟨f0, f1, f2, f3, f4, f5⟩ := (I3.fpOk (H' := G5) (Nat.le_refl _) nC : FpOk X pins G5 r3.heap.objs.size)
      exact ⟨m, hn, fun k sb => ⟨.ref L, G5, I7.turned (t' := r6.toks) (fun b o hb e => (sb.2 b hb).trans e) f0 f1 f3 f4 f5, rfl, qq⟩⟩
    · refine thnF (T.item (BlkX X scope r3 G3 fp) rfl rfl rfl i [] r5 _ G5 (fun _ _ => False) (hotY I5) I5 (stat I5 n5) t5 go) fun r r6 ⟨u, hr, c6⟩ => ?_
      subst hr
      refine thnF c6 fun _ r7 ⟨x, G7, I7, rl7, y7, t7, n7⟩ => ?_
      refine thnF ((hg r3 G3 fp hB).run _ r7 _ G7 x u _ (I7.pinned (stat I7 n7) (T.obj _ _ t7)) rl7 (step x G7 y7)) fun _ r8 ⟨σ8, G8, I8, hw8, q8⟩ => ?_
      refine thnF ((ht r3 G3 fp).run _ r8 σ8 G8 _ I8 q8) fun b r9 ⟨G9, I9, q9⟩ => ?_
      have fin : ∀ {s' : Shared} {H' : Hp}, Inv (BlkX X scope r3 G3 fp) ([] ++ pinsAt fp r7.heap) σ8 H' s' → Nx H' → ∃ m, m < n ∧ ∃ i H', Inv (BlkX X scope r3 G3 fp) [] (wipe σ (own.map (·.2))) H' s' ∧ tn i s'.heap ∧ (∀ b ∈ fp, H' b = none) ∧ W i m H' := fun {s' H'} I' nx => by
        obtain ⟨m', hm, w'⟩ := hNx H' nx
        have pk : ∀ b ∈ fp, ∀ o, r7.heap.get? b = some o → s'.heap.get? b = some o ∧ H' b = none := fun b hb o e => by
          have z := I'.pin (b, o) (List.mem_append_right _ (List.mem_append_right _ (mem_pinsAt hb e)))
          exact ⟨z.1, z.2.1⟩
        refine ⟨m', hm, i + 1, H', (I'.unpinned (pins := [])).weak (by rw [← hw8, wipe_length]) (fun j v e => ?_), T.keep _ _ _ t7 fun b hb o e => (pk b hb o e).1, fun b hb => ?_, w'⟩
        · rw [← hw8] at e
          exact (wipe_some e).1
        · obtain ⟨o, e, _⟩ := T.obj _ _ t7 b hb
          exact (pk b hb o e).2
      cases b with
      | false => exact fin I9 q9
      | true =>
        refine thnF ((he r3 G3 fp).run _ r9 σ8 G9 _ I9 q9) fun z r10 ⟨yv, G10, I10, rl10, acc, hD10, hz10, nx⟩ => ?_
        exact app_ok (X := BlkX X scope r3 G3 fp) I10 hD10 hz10 rl10 fun r11 I11 => fin I11 nx
  rw [← hr3] at loop t4 ⊢
  exact codeAny_compStart_list loop (T.self X.A 0 _ _ _ t4 loop)
end
end DL

set_option Elab.async false
set_option linter.all false
set_option maxRecDepth 100000
set_option maxHeartbeats 400000
/-! Texts cut and joined; isinstance of the handled exception; defs called while it is handled. -/
namespace DL
open PySem PySem.Spec PyProof.Rows L2 HotX
def isS : D → M Unit
  | .str _ => M.ret ()
  | _ => stuck
def mth (f : D → D → Option D) (ma mb : Ga → M D) : Ga → M D := fun Γ => M.bnd (ma Γ) fun x => M.bnd (isS x) fun _ => M.bnd (mb Γ) fun y => opt (f x y)
def D.split : D → D → Option D
  | .str a, .str b => if (b.length == 0) = false ∧ a.length ≤ 100000 then some (.lst ((Txt.split a b).map D.str)) else none
  | _, _ => none
def D.join : D → D → Option D
  | .str a, .lst ds => (strL ds).bind fun ys => if (ys.map (·.length)).sum + ys.length * a.length ≤ 16777216 then some (.str (Txt.join a ys)) else none
  | _, _ => none
section
variable {g : Gx} {E : XK} {X : Cx} {K : PySem.W.Frag}
theorem isS_inv {x : D} {bs : MS} (h : isS x bs ≠ none) : ∃ a, x = .str a := by
  cases x with
  | str a => exact ⟨a, rfl⟩
  | _ => exact absurd rfl h
theorem dg_mth {r : V → List V → Hp → VK → Prop} {f : D → D → Option D} {to te : TE} {ma mb : Ga → M D} (hr : ∀ ba B H bs a y z vy, f (.str a) y = some z → Ex ba B H → BagOff ba B → BagIs ba bs H → DenT K ba B H y vy → ∀ Q : VK, (∀ v B' H', Step g ba B H B' H' → BagIs ba bs H' → Den K ba B' z v → Q v H') → r (.str a) [vy] H Q)
    (a : DG g K E (RB K) to ma) (b : DG g K E (RB K) te mb) : DG g K E (RD K) (tM1 r to te) (mth f ma mb) := by
  intro ba B0 H0 σ Γ bs B H s Q hn h1 h2
  refine (a ba B0 H0 σ Γ bs B H s).bnd (f := fun x => M.bnd (isS x) fun _ => M.bnd (mb Γ) fun y => opt (f x y)) hn h2 fun x b1 e1 e1' n1 v B1 H1 t1 i1 d1 x1 => ?_
  have s1 := s.step t1 i1
  obtain ⟨w, rfl⟩ := isS_inv (x := x) (bs := b1) (fun z => n1 (bnd_none z))
  have d1 : DenT K ba B1 H1 (.str w) v := d1
  rw [d1.str]
  refine ⟨⟨w, rfl⟩, ?_⟩
  have n1 : M.bnd (mb Γ) (fun y => opt (f (.str w) y)) b1 ≠ none := n1
  have x1 : Xw g E ba B1 H1 (M.bnd (mb Γ) (fun y => opt (f (.str w) y)) b1) := x1
  refine (b ba B0 H0 σ Γ b1 B1 H1 s1).bnd (f := fun y => opt (f (.str w) y)) n1 x1 fun y b2 e2 e2' n2 u B2 H2 t2 i2 d2 x2 => ?_
  have s2 := s1.step t2 i2
  obtain ⟨z, hz, ho⟩ := opt_some n2
  refine hr ba B2 H2 b2 w y z u hz s2.sub s2.off i2 d2 Q fun q B3 H3 t3 i3 d3 => ?_
  exact h1 z b2 (e1'.trans (e2'.trans ho)) q B3 H3 ((t1.trans i1 t2).trans i2 t3) i3 d3
theorem pd_split {o e : Expr} {to te : TE} {ma mb : Ga → M D} {apos pos : Pos} (ha : PB g E X o to ma) (hb : PB g E X e te mb) (hs : starEach [e] X.env = [(false, eval e X.env)] := by rfl) (hbase : attributeBase o "split" X.env (eval o X.env) = eval o X.env := by rfl) (hline : (apos.endLine == pos.line) = true := by rfl) :
    PD g E X (.Call (.Attribute o "split" apos) [e] [] pos) (tM1 (fun x xs H Q => ∃ a b, x = .str a ∧ xs = [.str b] ∧ (b.length == 0) = false ∧ a.length + 2 ≤ sizeLine ∧ rNewStrs (Txt.split a b) H Q) to te) (mth D.split ma mb) := by
  refine ⟨pe_split ha.pe hb.pe hs hbase hline, dg_mth (fun ba B H bs a y z vy hz e f bi dy Q q => ?_) ha.de hb.de⟩
  cases y with
  | str b =>
    obtain ⟨⟨h1, h2⟩, rfl⟩ := of_ite (show (if (b.length == 0) = false ∧ a.length ≤ 100000 then some (D.lst ((Txt.split a b).map D.str)) else none) = some z from hz)
    rw [dy.str]
    refine ⟨a, b, rfl, rfl, h1, Nat.le_trans (Nat.add_le_add_right h2 2) (by decide), fun p hp => ?_⟩
    have t : Step g ba B H (upd B p (.lst ((Txt.split a b).map V.str))) (upd H p (.lst ((Txt.split a b).map V.str))) := Step.new e hp
    exact q _ _ _ t (bi.new hp) (den_lst' upd_same (den_strs _))
  | _ => exact nomatch (show none = some z from hz)
theorem pd_join {o e : Expr} {to te : TE} {ma mb : Ga → M D} {apos pos : Pos} (ha : PB g E X o to ma) (hb : PB g E X e te mb) (hs : starEach [e] X.env = [(false, eval e X.env)] := by rfl) (hbase : attributeBase o "join" X.env (eval o X.env) = eval o X.env := by rfl) (hline : (apos.endLine == pos.line) = true := by rfl) :
    PD g E X (.Call (.Attribute o "join" apos) [e] [] pos) (tM1 (fun x xs H Q => ∃ a p, ∃ ys : List Str, x = .str a ∧ xs = [.ref p] ∧ (SqL X.K H p (ys.map V.str) ∨ SqT X.K H p (ys.map V.str)) ∧ (ys.map (·.length)).sum + ys.length * a.length ≤ 16777216 ∧ Q (.str (Txt.join a ys)) H) to te) (mth D.join ma mb) := by
  refine ⟨pe_join ha.pe hb.pe hs hbase hline, dg_mth (fun ba B H bs a y z vy hz e f bi dy Q q => ?_) ha.de hb.de⟩
  cases y with
  | lst ds =>
    obtain ⟨ys, h1, h2⟩ := Option.bind_eq_some_iff.mp (show (strL ds).bind (fun ys => if (ys.map (·.length)).sum + ys.length * a.length ≤ 16777216 then some (D.str (Txt.join a ys)) else none) = some z from hz)
    obtain ⟨h3, rfl⟩ := of_ite h2
    obtain ⟨p, vs, rfl, hp, hd⟩ := dy.lst e f
    have ev := strL_den h1 hd
    subst ev
    exact ⟨a, p, ys, rfl, rfl, .inl (SqL.of hp), h3, q _ B H (Step.refl e) bi den_str'⟩
  | _ => exact nomatch (show none = some z from hz)
/-! ### isinstance of the handled exception -/
def rIsX (x1 : Addr) (Dc : Addr) (b : Bool) : List V → Hp → VK → Prop := fun xs H Q => xs = [.ref x1, .ref Dc] ∧ Q (.bl b) H
theorem call_isX {x1 C Dc : Addr} {ox : Obj} {b : Bool} (hp : (x1, ox) ∈ X.pn) (EC : ExcC X.K C) (hz : Zc (.ref C) none ox) (hf : ∃ vs, ox.data = .fields vs) (hk : PySem.W.kitOne X.K (.ref C) (.ref Dc) = some b) : CallR X (.builtin "isinstance") (rIsX x1 Dc b) := by
  intro pins s σ H xs us Q I r h
  obtain ⟨rfl, q⟩ := h
  obtain ⟨u1, u2, rfl, r1, r2⟩ := vals2 r
  cases (show u1 = Value.ref x1 from r1)
  cases (show u2 = Value.ref Dc from r2)
  have hget := (I.pin (x1, ox) (List.mem_append_left _ hp)).1
  obtain ⟨vs, hv⟩ := hf
  have J : PySem.W.InstAt s.heap x1 ox C none := by
    obtain ⟨oc, od, oda, osl⟩ := ox
    obtain ⟨z1, z2⟩ := hz
    dsimp only at z1 z2 hv
    subst z1 z2 hv
    exact ⟨hget, rfl, rfl, trivial⟩
  exact PySem.W.kia_one (PySem.W.handS_kitx_exc EC.hg EC.hk EC.hs EC.hd EC.ha EC.hn EC.ht EC.hm) I.kIn J hk (fun z => nomatch z) fun tk => ⟨.bl b, H, I.tok tk, rfl, q⟩
/-- .. of a built-in class -/
theorem call_isXT {x1 C : Addr} {ox : Obj} {n : String} {b : Bool} (hp : (x1, ox) ∈ X.pn) (EC : ExcC X.K C) (hz : Zc (.ref C) none ox) (hf : ∃ vs, ox.data = .fields vs) (hk : PySem.W.kitOne X.K (.ref C) (.type n) = some b) : CallR X (.builtin "isinstance") (fun xs H Q => xs = [.ref x1, .ty n] ∧ Q (.bl b) H) := by
  intro pins s σ H xs us Q I r h
  obtain ⟨rfl, q⟩ := h
  obtain ⟨u1, u2, rfl, r1, r2⟩ := vals2 r
  cases (show u1 = Value.ref x1 from r1)
  cases (show u2 = Value.type n from r2)
  have hget := (I.pin (x1, ox) (List.mem_append_left _ hp)).1
  obtain ⟨vs, hv⟩ := hf
  have J : PySem.W.InstAt s.heap x1 ox C none := by
    obtain ⟨oc, od, oda, osl⟩ := ox
    obtain ⟨z1, z2⟩ := hz
    dsimp only at z1 z2 hv
    subst z1 z2 hv
    exact ⟨hget, rfl, rfl, trivial⟩
  exact PySem.W.kia_one (PySem.W.handS_kitx_exc EC.hg EC.hk EC.hs EC.hd EC.ha EC.hn EC.ht EC.hm) I.kIn J hk (fun z => nomatch z) fun tk => ⟨.bl b, H, I.tok tk, rfl, q⟩
def isEM (x1 : Addr) (i : Nat) (b : Bool) : Ga → M D := fun Γ => match Γ[i]? with
  | some (.d (.obj (.ref a))) => if a = x1 then M.ret (.bl b) else stuck
  | _ => stuck
theorem isEM_inv {x1 : Addr} {i : Nat} {b : Bool} {Γ : Ga} {bs : MS} (h : isEM x1 i b Γ bs ≠ none) : Γ[i]? = some (.d (.obj (.ref x1))) ∧ isEM x1 i b Γ bs = some (.ok (.bl b), bs) := by
  have nn : ∀ o, Γ[i]? = o → (∀ a, o ≠ some (.d (.obj (.ref a)))) → isEM x1 i b Γ bs = none := fun o q hne => by
    unfold isEM
    rw [q]
    cases o with
    | none => rfl
    | some y =>
      cases y with
      | d z =>
        cases z with
        | obj v =>
          cases v with
          | ref a => exact absurd rfl (hne a)
          | _ => rfl
        | _ => rfl
      | _ => rfl
  by_cases c : Γ[i]? = some (.d (.obj (.ref x1)))
  · refine ⟨c, ?_⟩
    unfold isEM
    rw [c]
    show (if x1 = x1 then M.ret (D.bl b) else stuck) bs = _
    rw [if_pos rfl]
    rfl
  · refine absurd ?_ h
    by_cases c2 : ∃ a, Γ[i]? = some (.d (.obj (.ref a)))
    · obtain ⟨a, e⟩ := c2
      have ne : a ≠ x1 := fun z => c (by rw [e, z])
      unfold isEM
      rw [e]
      show (if a = x1 then M.ret (D.bl b) else stuck) bs = none
      rw [if_neg ne]
      rfl
    · exact nn _ rfl fun a z => c2 ⟨a, z⟩
theorem pd_isX {x1 C Dc : Addr} {ox : Obj} {b : Bool} {i : Nat} {e : Expr} {nm : Str} {p q pos : Pos} (hp : (x1, ox) ∈ X.pn) (EC : ExcC X.K C) (hz : Zc (.ref C) none ox) (hf : ∃ vs, ox.data = .fields vs) (hk : PySem.W.kitOne X.K (.ref C) (.ref Dc) = some b)
    (hm : X.mg "isinstance" = none) (he : PE X e (tVar i)) (gD : X.mg nm = some (.ref Dc)) (hgn : Gl X nm := by rfl) (hd : (nm == ("__debug__" : Str)) = false := by decide)
    (hg : Gl X "isinstance" := by rfl) (hs : starEach [e, .Name nm q] X.env = (false, eval e X.env) :: starEach [.Name nm q] X.env := by rfl) (hs2 : starEach [.Name nm q] X.env = (false, eval (.Name nm q) X.env) :: starEach [] X.env := by rfl) (hpl : (backTo pos (starEach [.Name nm q] X.env)).any (·.1) = false := by rfl) :
    PD g E X (.Call (.Name "isinstance" p) [e, .Name nm q] [] pos) (tCB (rIsX x1 Dc b) (tCons (tVar i) (tCons (tC (.ref Dc)) tNil))) (isEM x1 i b) := by
  refine ⟨pe_callB (call_isX hp EC hz hf hk) hg hm boot_isinstance (pa_cons he (pa_cons (pe_glob hgn gD rfl hd) pa_nil hs2) hs) (by decide) (by decide) hs hpl, fun ba B0 H0 σ Γ bs B H s Q hn h1 h2 => ?_⟩
  obtain ⟨e1, e2⟩ := isEM_inv hn
  obtain ⟨v, f1, f2⟩ := s.slot i _ e1
  rw [den_obj f2] at f1
  exact ⟨.ref x1, join_some f1, rfl, h1 (.bl b) bs e2 _ B H (Step.refl s.sub) s.bag den_bl'⟩
end
end DL

set_option Elab.async false
set_option linter.all false
set_option maxRecDepth 100000
set_option maxHeartbeats 400000
/-! A tuple unpacked, a comprehension over zip, while an exception is handled. -/
namespace DLS
open PySem PySem.Spec PyProof.Rows
section
variable {prog : Program} {w : World} {A : Around} {E : Value → Shared → Prop} {s : Shared}
theorem tup_end_hot {it t x1 : Addr} {i : Nat} {items : Array Value} {Q : Option Value → Shared → Prop} (hot : HotX.HotAt A x1 s.heap) (hne : x1 ≠ it) (hit : IsTupIter s.heap it t i) (ht : IsTup s.heap t items) (hx : items[i]? = none)
    (hQ : ∀ h', Heap.ExtBut it s.heap h' → Q none { s with heap := h' }) : wpAny (model prog w) A (pyNext (.ref it)) Q E s := by
  obtain ⟨o, ho, hc, hd⟩ := id hit
  obtain ⟨ol, hol, _, nl, hdl⟩ := ht
  obtain ⟨hh, o1, vs1, h1, d1, c1⟩ := hot
  unfold pyNext
  refine wpAny_bind (wpAny_attempt (wpAny_callSpecial?_slot hit.typeIs slot_tupleiter_next (name := Str.ofString "__next__") (wpAny_call_entry slot_tupleiter_next hit.typeIs entry_tupleiter_next ?_ (args_tupleiter_next _))))
  show wpAny _ _ (field (.ref it) 0 >>= _) _ _ s
  refine wpAny_bind (wpAny_field (x := .ref t) ho hd rfl ?_)
  show wpAny _ _ (if (Value.ref t == Value.none) = true then _ else _) _ _ s
  have nr : ¬ (Value.ref t == Value.none) = true := fun z => Bool.false_ne_true z
  rw [if_neg nr]
  show wpAny _ _ (field (.ref it) 1 >>= _) _ _ s
  refine wpAny_bind (wpAny_field (x := .int i 0) ho hd rfl ?_)
  show wpAny _ _ (seqItems? (.ref t) >>= _) _ _ s
  refine wpAny_bind (wpAny_seqItems hol hdl ?_)
  simp only [hx, Int.toNat_natCast]
  refine wpAny_bind (wpAny_rule (wpAny_bind (wpAny_setField ho hd (by simp) ?_)))
  generalize hh2 : s.heap.update it (Obj.mapFields (·.setIfInBounds 0 Value.none)) = h2
  have k1 : h2.get? x1 = some o1 := by rw [← hh2, Heap.get?_update_other _ _ (Ne.symm hne)]; exact h1
  have kb : Heap.ExtBut it s.heap h2 := by rw [← hh2]; exact (Heap.SameBut.update ..).extBut
  refine wpAny_bind ?_
  simp only [newTuple, newExc]
  refine wpAny_bind (wpAny_newObj_type ?_ (by size_fits))
  refine wpAny_bind (m := firstArgMember _ _) (wpAny_of_eq (a := Value.none) (by first | (simp only [firstArgMember]; rfl) | rfl) ?_)
  refine wpAny_newObj_type ?_ (by size_fits)
  have k2 : ∀ p q : Obj, ((h2.push p).push q).get? x1 = some o1 := fun p q => Heap.get?_push_of_some _ (Heap.get?_push_of_some _ k1)
  refine HotX.raiseNew_hot (A := A.in1) ⟨hh, o1, vs1, k2 _ _, d1, c1⟩ (Nat.ne_of_lt (Heap.lt_size (Heap.get?_push_of_some _ k1))) (Heap.get?_push_size _ rfl) rfl (by first | (simp; done) | (simp; omega)) ?_
  refine wpAny_bind (wpAny_isInstance (b := true) (T := "StopIteration") ⟨_, Heap.get?_update_self _ (Heap.get?_push_size _ rfl) rfl, rfl⟩ isSubtype_stop ?_)
  refine wpAny_pure (hQ _ fun b o nb q => ?_)
  have q2 := kb b o nb q
  show (((h2.push _).push _).update _ _).get? b = some o
  rw [Heap.get?_update_other _ _ (Nat.ne_of_gt (Heap.lt_size (Heap.get?_push_of_some _ q2)))]
  exact Heap.get?_push_of_some _ (Heap.get?_push_of_some _ q2)
theorem unpack_hot {x1 t : Addr} {items : Array Value} {targets : List (Bool × (Value → Sem Unit))} {Q : Unit → Shared → Prop} (hot : HotX.HotAt A x1 s.heap) (ht : IsTup s.heap t items) (hn : targets.length = items.size) (hstar : targets.findIdx? (·.1) = none)
    (h : ∀ h', Heap.ExtBut s.heap.objs.size s.heap h' → wpAny (model prog w) A (assignInOrder (targets.map (·.2)) items.toList) Q E { s with heap := h' }) : wpAny (model prog w) A (unpack (.ref t) targets) Q E s := by
  have hlt : t ≠ s.heap.objs.size := ht.elim fun o ho => Nat.ne_of_lt (Heap.lt_size ho.1)
  obtain ⟨hh, o1, vs1, k1, d1, c1⟩ := hot
  have nx : x1 ≠ s.heap.objs.size := Nat.ne_of_lt (Heap.lt_size k1)
  unfold unpack
  rw [hn, hstar]
  refine wpAny_bind (wpAny_holding ?_)
  unfold unpackItems
  refine wpAny_bind ?_
  unfold notIterableAtAll
  refine wpAny_bind (wpAny_specialOf ht.typeIs slot_tuple_iter.lookup (wpAny_pure ?_))
  simp only [if_false, Bool.false_eq_true]
  refine wpAny_bind (wpAny_holding (iter_tuple ht ?_))
  refine wpAny_bind (wpAny_holding (draw_tuple hlt items.size 0 _ _ ⟨_, Heap.get?_push_size _ rfl, rfl, rfl⟩ (ht.push _) (by omega) fun g1 git gs => ?_))
  have hall : (items.toList.drop 0).take items.size = items.toList := by rw [List.drop_zero, List.take_of_length_le (by simp)]
  rw [hall, if_neg (by simp)]
  have hot2 : HotX.HotAt A x1 g1 := ⟨hh, o1, vs1, gs.extBut _ _ nx (Heap.get?_push_of_some _ k1), d1, c1⟩
  refine wpAny_bind (wpAny_holding (tup_end_hot (s := { s with heap := g1 }) hot2 nx git ((ht.push _).extBut gs.extBut hlt) (by simp) fun g2 ge => ?_))
  simp only [Option.isSome_none, if_false, Bool.false_eq_true]
  exact wpAny_pure (h g2 fun b o nb e => ge b o nb (gs.extBut b o nb (Heap.get?_push_of_some _ e)))
end
end DLS
namespace DL
open PySem PySem.Spec PyProof.Rows L2 HotX
section
variable {g : Gx} {E : XK} {X : Cx}
/-- a, b = the pair, in the block -/
theorem pg_tupX {x1 : Addr} {ox : Obj} {scope : Scope} {s0 : Shared} {H0 : Hp} {fp : List Addr} {es : List Expr} {k n : Nat} {t : TGs} {pos : Pos} (hx : L2H.Hot1 X.A (x1, ox)) (hB : HotB x1 ox X s0 H0 fp) (h : PGs (BlkX X scope s0 H0 fp) es t)
    (hn : (assignEach es (BlkX X scope s0 H0 fp).env).length = n) (hst : (assignEach es (BlkX X scope s0 H0 fp).env).findIdx? (·.1) = none) : PG (BlkX X scope s0 H0 fp) (.Tuple es k pos) (gTup X.K n t) := by
  refine ⟨fun pins s σ H v u Q I r hw => ?_⟩
  obtain ⟨a, xs, e1, hq, hl, hw⟩ := hw
  subst e1
  cases r
  obtain ⟨its, rv, ht, hz⟩ := I.tuple hq
  obtain ⟨hh, vs, d1, d2⟩ := hx
  have hot : HotAt X.A x1 s.heap := ⟨hh, ox, vs, I.base.keep x1 ox hB.1 hB.2.1 hB.2.2.1 hB.2.2.2, d1, d2⟩
  rw [assign_Tuple]
  refine wpAny_bind (wpAny_standAt (DLS.unpack_hot hot ht (by simp [hn, ← hl, rv.length]) hst fun g' hx' => ?_))
  have J1 : Inv (BlkX X scope s0 H0 fp) pins σ H { s with heap := g' } := I.kept (t' := s.toks) fun b o e => hx' b o (Nat.ne_of_lt (Heap.lt_size e)) e
  exact h.run pins _ σ H xs _ Q J1 (by simpa using rv) hw
def zipLK : List D → M (List D)
  | [.lst xs, .lst ys] => M.ret (List.zipWith (fun a b => D.tup [a, b]) xs ys)
  | _ => stuck
theorem zipLK_inv {xs : List D} {bs : MS} (h : zipLK xs bs ≠ none) : ∃ ds es, xs = [.lst ds, .lst es] ∧ zipLK xs bs = some (.ok (List.zipWith (fun a b => D.tup [a, b]) ds es), bs) := by
  unfold zipLK at h ⊢
  split at h
  · exact ⟨_, _, rfl, rfl⟩
  · exact absurd rfl h
def iZipL (K : PySem.W.Frag) (ta : TA) : TI := fun σ H R => ta σ H fun vs H1 => ∃ (a b : Addr) (xs ys : List V), vs = [.ref a, .ref b] ∧ SqL K H1 a xs ∧ SqL K H1 b ys ∧ R (ItzA K (.lst a) (.lst b)) H1
theorem di_zipL {K : PySem.W.Frag} {ta : TA} {m : Ga → M (List D)} (h : DG g K E (RA K) ta m) : ∀ ba B0 H0 σ Γ bs B H, Sta g K ba B0 H0 σ Γ bs B H → Ev g E (fun ba B' _ xs J => IterOk g K ba B' xs J) ba (iZipL K ta) σ B H (M.bnd (m Γ) zipLK bs) := by
  intro ba B0 H0 σ Γ bs B H s R hn h1 h2
  refine (h ba B0 H0 σ Γ bs B H s).bnd (f := zipLK) hn h2 fun x b1 e1 e1' n1 v B1 H1 t1 i1 d1 x1 => ?_
  have s1 := s.step t1 i1
  obtain ⟨ds, es, rfl, e2⟩ := zipLK_inv n1
  obtain ⟨w, r, rfl, hw, hr⟩ := dens_cons_inv d1
  obtain ⟨w2, r2, rfl, hw2, hr2⟩ := dens_cons_inv hr
  obtain ⟨a, vs1, rfl, ha, hd⟩ := den_lst hw
  obtain ⟨b, vs2, rfl, hb, hd2⟩ := den_lst hw2
  rw [dens_nil_inv hr2]
  refine ⟨a, b, vs1, vs2, rfl, SqL.of (lst_ex s1.sub s1.off ha), SqL.of (lst_ex s1.sub s1.off hb), h1 _ b1 (e1'.trans e2) (ItzA K (.lst a) (.lst b)) B1 H1 t1 i1 ?_⟩
  refine ⟨min vs1.length vs2.length, _, _, walk_zipA rfl, by rw [List.length_zipWith, hd.length, hd2.length], fun B2 H2 e1 e2 f2 => ⟨SqL.of (lst_ex e2 f2 (lst_ex e1 s1.off ha)), SqL.of (lst_ex e2 f2 (lst_ex e1 s1.off hb))⟩, fun i B2 H2 bs' q H3 hi e1 e2 f2 bi yy => ?_⟩
  obtain ⟨T, u, u2, rfl, hT, rfl, hu, hu2⟩ := yy
  have at_ : ∀ {fs : List D} {vs : List V} {w : V}, Dens K ba B1 fs vs → vs[i]? = some w → ∃ d, fs[i]? = some d ∧ Den K ba B1 d w := fun {fs vs w} hf hw => by
    obtain ⟨q1, q2⟩ := List.getElem?_eq_some_iff.mp hw
    have hlt : i < fs.length := by rw [← hf.length]; exact q1
    obtain ⟨z, z1, z2⟩ := hf.get (List.getElem?_eq_getElem hlt)
    rw [hw] at z1
    cases z1
    exact ⟨fs[i], List.getElem?_eq_getElem hlt, z2⟩
  obtain ⟨d, hd', dd⟩ := at_ hd hu
  obtain ⟨d2, hd2', dd2⟩ := at_ hd2 hu2
  have t3 : Step g ba B2 H2 (upd B2 T (.tup [u, u2])) (upd H2 T (.tup [u, u2])) := Step.new e2 hT
  refine ⟨_, .tup [d, d2], ?_, t3, bi.new hT, den_tup' (SqT.of upd_same) (dens_cons (Den.mono (e1.trans t3.bb) s1.off _ _ dd) (dens_cons (Den.mono (e1.trans t3.bb) s1.off _ _ dd2) dens_nil))⟩
  rw [List.getElem?_zipWith, hd', hd2']
/-- [elt for x, y in zip(e1, e2) if ..], the exception at x1 handled -/
theorem pn_zipX {x1 : Addr} {ox : Obj} {elt e e2 : Expr} {es : List Expr} {ifs : List Expr} {scope : Scope} {own : List (Str × Nat)} {pos zpos zp tpos : Pos} {kk n : Nat} {ta : TA} {u : TGs} {tt : TT} {te : TE} {m : Ga → M (List D)} {ms : List D → Ga → Option Ga} {mt : Ga → M Bool} {me : Ga → M D}
    (hx : L2H.Hot1 X.A (x1, ox)) (hp : (x1, ox) ∈ X.pn) (hN : X.N.Nodup) (hm : X.mg "zip" = none) (ha : PDA g E X [e, e2] ta m) (ok : BlkOk X.N X.env.scope scope own) (ho : Owns (own.map (·.2)) u) (hmo : MonoGs u)
    (hg : ∀ s H C cl fp, PDGs g (bk X scope s H C cl fp) es u ms) (ht : ∀ s H C cl fp, PDTs g E0 (bk X scope s H C cl fp) ifs tt mt) (he : ∀ s H C cl fp, PD g E0 (bk X scope s H C cl fp) elt te me)
    (hn : ∀ s H fp, (assignEach es (BlkX X scope s H fp).env).length = n) (hst : ∀ s H fp, (assignEach es (BlkX X scope s H fp).env).findIdx? (·.1) = none)
    (hgz : Gl X "zip" := by rfl) (hs : starEach [e, e2] X.env = (false, eval e X.env) :: starEach [e2] X.env := by rfl) (hpl : (backTo zpos (starEach [e2] X.env)).any (·.1) = false := by rfl)
    (hf : ∀ x, foldedSetIterable (.Call (.Name "zip" zp) [e, e2] [] zpos) X.env x = pure x := by intro _; rfl) :
    PN g E X (.ListComp elt [⟨.Tuple es kk tpos, .Call (.Name "zip" zp) [e, e2] [] zpos, ifs, 0⟩] scope pos) (tLc (iZipL X.K ta) (gTup X.K n u) tt te (own.map (·.2))) (compM (own.map (·.2)) (fun Γ => M.bnd (m Γ) zipLK) (gT n ms) mt me) := by
  have dt : DT g X.K (gTup X.K n u) (gT n ms) := fun ba B0 H0 σ Γ bs B H x v Γ' Q s d e q => by
    cases x with
    | tup ds =>
      obtain ⟨a, vs, rfl, ha, hd⟩ := den_tup d
      have e : (if ds.length = n then ms ds Γ else none) = some Γ' := e
      by_cases c : ds.length = n
      · rw [if_pos c] at e
        exact ⟨a, vs, rfl, sqT_ex s.sub s.off ha, hd.length.trans c, (hg X.s_0 X.H_0 0 [] []).de ba B0 H0 σ Γ bs B H ds vs Γ' Q s hd e q⟩
      · rw [if_neg c] at e
        cases e
    | _ => cases e
  refine ⟨pe_lcX hx hp hN (fun pins s σ H R I h => zip_comes hp hgz hm ha.pe I h hs hpl) ok (fun s H fp hB => pg_tupX hx hB (hg s H _ _ fp).pe (hn s H fp) (hst s H fp)) (fun s H fp => (ht s H _ _ fp).pe) (fun s H fp => (he s H _ _ fp).pe) hf,
    dn_lc (di_zipL ha.de) dt (own_t ho) (mono_t hmo) (ht X.s_0 X.H_0 0 [] []).de (he X.s_0 X.H_0 0 [] []).de⟩
end
end DL

set_option Elab.async false
set_option linter.all false
set_option maxRecDepth 100000
set_option maxHeartbeats 2000000
/-! A lambda without parameters handed to a def that calls it; what it lets out has no context. -/
namespace DL
open PySem PySem.Spec PyProof.Rows L2
/-- the context of the lambda's body -/
abbrev lamX (X : Cx) (A : Around) (outer : List Env) (s : Shared) (H : Hp) (E : XK) (scope : Scope) (f c' : Addr) : Cx :=
  (LamX.lamCx X A outer s H E scope f c').tr [] (fun e s' => wpAny (model X.prog X.w) (A.deeper (LamX.lamEnv X scope s.heap.objs.size f c')) (leaving (LamX.lamEnv X scope s.heap.objs.size f c') e)
    (fun _ s'' => L2N.CX X.prog X.w outer H s E e s'') (fun e' s'' => L2N.CX X.prog X.w outer H s E e' s'') s')
theorem lamX_takes {X : Cx} {A : Around} {outer : List Env} {s : Shared} {H : Hp} {E : XK} {scope : Scope} {f c' : Addr} : L2N.Takes (lamX X A outer s H E scope f c') (fun cls d _ H => E cls d H) :=
  L2N.takes_of (X := lamX X A outer s H E scope f c') rfl rfl rfl rfl
/-- cells that no frame is -/
def CellFree (X : Cx) : Prop := ∀ (pins : List (Addr × Obj)) (σ : L2.St) (H : Hp) (s : Shared), Inv X pins σ H s → ∀ y c, X.env.cells.lookup y = some c → c ∉ frs X.stack
/-- the state at the entry of a lambda that X made at a place -/
structure Still (T : TQ) (X : Cx) (scope : Scope) (pos : Pos) (outer : List Env) (H : Hp) (c' : Addr) : Prop where
  placed : Placed T H pos c'
  cells : CellFree X → ∀ y c, (cloFrom X.env.cells scope.names []).lookup y = some c → c ∉ frs outer
section
variable {X : Cx} {pins : List (Addr × Obj)} {σ : L2.St} {H HZ : Hp} {s s1 : Shared}
theorem clo_sub {cells : List (Str × Addr)} {ns : List (Str × NameKind)} (hfree : ∀ y ∈ ns, y.2 = .free → ∃ c, cells.lookup y.1 = some c) {y : Str} {c : Addr} (e : (cloFrom cells ns []).lookup y = some c) : cells.lookup y = some c := by
  rcases cloFrom_mem (PySem.mem_of_lookup e) with hm | ⟨h1, h2⟩
  · cases hm
  · obtain ⟨c1, hc⟩ := hfree _ h1 rfl
    have hc : cells.lookup y = some c1 := hc
    have e2 : c = c1 := by
      rw [h2, hc] <;> rfl
    rw [e2]
    exact hc
theorem cellFree_def (hfn : ∀ y, X.fn y = true) : CellFree X := fun _ _ _ _ I y c e z => by
  rcases List.mem_cons.mp (I.stkSub c z) with h | h
  · exact I.cne y c e h
  · obtain ⟨_, o, ho, _⟩ := I.ok.funs.mem h
    exact absurd (Nat.lt_of_lt_of_le (Heap.lt_size ho) (I.ok.cab y c (hfn y) e)) (Nat.lt_irrefl _)
theorem cellFree_lam {T : TQ} {A : Around} {outer : List Env} {E : XK} {scope : Scope} {pos : Pos} {f c' : Addr} (st : Still T X scope pos outer H c') (hX : CellFree X) : CellFree (lamX X A outer s H E scope f c') := fun _ _ _ _ I y c e z => by
  rcases List.mem_cons.mp (I.stkSub c z) with h | h
  · exact I.cne y c e h
  · exact st.cells hX y c e h
/-- x(), in the def that got the lambda -/
theorem pe_actN {CXg : CXT} {Eg : XK} {Ng : List Str} {qg : Str} {sg : Scope} {g f c' : Addr} {cdg pm ctv : Value} {params : Arguments} {body : Expr} {scope : Scope} {k i : Nat} {a : Str} {pn : List (Addr × Obj)} {xe : Value → Shared → Prop} {W : WX} {E : XK} {tb : TE} {p1 p2 lpos : Pos} {T : TQ}
    (I : Inv X pins σ H s) (hpl : Placed T H lpos c') (L : LamX.LamS X.env.scope scope) (hf : s.heap.get? f = some (PySem.W.kla_obj "<lambda>" (X.env.qual ++ "<lambda>") params body scope (cloFrom X.env.cells scope.names []) pm c' ctv)) (hfn : H f = none) (hfr : f ∉ frs X.stack)
    (hbind : bindArgs (PySem.W.kla_fn "<lambda>" (X.env.qual ++ "<lambda>") params body scope (cloFrom X.env.cells scope.names []) pm (.ref c') ctv) ⟨[], []⟩ = pure [])
    (tk : L2N.Takes ((cxOf CXg X.prog X.w X.K X.mg X.base Ng qg sg g cdg X.A X.stack s H Eg).tr pn xe) W) (hW : ∀ cls d σ' H', E cls d H' → W cls d σ' H') (hr : Room (k + 1) (X.A.deeper (envOfC qg sg s.heap.objs.size g cdg)))
    (hbody : ∀ (A : Around) (outer : List Env) (s : Shared) (H : Hp), Still T X scope lpos outer H c' → Room k (A.deeper (LamX.lamEnv X scope s.heap.objs.size f c')) → PE (lamX X A outer s H E scope f c') body tb)
    (hN : Ng[i]? = some a) (hv : Vis sg a) (hd : (a == ("__debug__" : Str)) = false := by decide) (hcd : (a == ("__classdict__" : Str)) = false := by decide) :
    PE ((cxOf CXg X.prog X.w X.K X.mg X.base Ng qg sg g cdg X.A X.stack s H Eg).tr pn xe) (.Call (.Name a p1) [] [] p2)
      (fun σZ HZ Q => σZ[i]? = some (some (.ref f)) ∧ CoK HZ c' (X.env.qual ++ "<lambda>") ∧ tb σ HZ Q) := by
  refine ⟨fun pinsZ sZ σZ HZ Q IZ h => ?_⟩
  obtain ⟨hs, hc, ht⟩ := h
  refine wpAny_Call_Name_kw (thn ((pe_var (pos := p1) (i := i) hN hv hd hcd).run pinsZ sZ σZ HZ (fun v H1 => v = .ref f ∧ H1 = HZ) IZ ⟨.ref f, hs, rfl, rfl⟩) fun u s1 ⟨v, H1, I1, r1, q1⟩ => ?_)
  obtain ⟨ev, eH⟩ := q1
  subst ev
  rw [eH] at I1
  obtain rfl : u = Value.ref f := r1
  have of1 := I1.base.keep f _ hf hfn hfr (fun z => nomatch (show f ∈ ([] : List Addr) from z))
  refine PySem.W.callWith_F0 ⟨_, _, _, _, of1⟩ ?_
  have un : Un (frs X.stack) [] H HZ s.heap s1.heap := I1.base
  obtain ⟨oc, vs, t, hoc, hdc, hvc⟩ := hc.at I1.hok
  have rc : codeAny (model X.prog X.w) (X.A.deeper (envOfC qg sg s.heap.objs.size g cdg)) (.call (.ref f) ⟨[], []⟩) (CR (L2N.CX X.prog X.w) (envOfC qg sg s.heap.objs.size g cdg :: X.stack) X.prog X.w HZ s1 Q E) s1 := by
    refine PySem.W.kla_callFunE hr.depth of1 rfl L.co L.gen rfl ⟨c', oc, vs, t, rfl, hoc, hdc, hvc⟩ ?_
    rw [hbind]
    refine wpAny_pure (wpAny_newFunctionEnv (fun y hy => (L.own y hy).2) (fun y hy => absurd hy (by simp)) (fun h₁ hns hsb => ⟨I1.nolimit.fresh _ hsb, ?_⟩) L.kind)
    show codeAny _ _ (.expr body (LamX.lamEnv X scope s1.heap.objs.size f c')) _ _
    have kp : ∀ b o, s1.heap.get? b = some o → h₁.get? b = some o := fun b o e => hsb.extBut b o (Nat.ne_of_lt (Heap.lt_size e)) (Heap.get?_push_of_some _ e)
    have J0 : Inv (LamX.lamCx X (X.A.deeper (envOfC qg sg s.heap.objs.size g cdg)) (envOfC qg sg s.heap.objs.size g cdg :: X.stack) s1 HZ E scope f c') [] σ HZ { s1 with heap := h₁, toks := s1.toks + ([] : List (Str × Value)).length } :=
      LamX.lam_start2 I L I1.env0 hr.hd un hns kp
    have J : Inv (lamX X (X.A.deeper (envOfC qg sg s.heap.objs.size g cdg)) (envOfC qg sg s.heap.objs.size g cdg :: X.stack) s1 HZ E scope f c') [] σ HZ { s1 with heap := h₁, toks := s1.toks + ([] : List (Str × Value)).length } := J0.toTry _
    have off : CellFree X → ∀ y c, (cloFrom X.env.cells scope.names []).lookup y = some c → c ∉ frs (envOfC qg sg s.heap.objs.size g cdg :: X.stack) := fun hcf y c e z => by
      have e' := clo_sub (L.has I.ok) e
      rcases List.mem_cons.mp (show c ∈ s.heap.objs.size :: frs X.stack from z) with h | h
      · obtain ⟨v, o, ho, _⟩ := I.cell y c e'
        rw [h] at ho
        exact Nat.lt_irrefl _ (Heap.lt_size ho)
      · exact hcf _ _ _ _ I y c e' h
    refine PySem.W.kla_codeExpr (wpAny_mono ((hbody _ _ s1 HZ ⟨hpl.un un, off⟩ (hr.deeper _)).run [] _ _ HZ Q J ht) (fun v s' hq => ?_) fun e s' hq => hq)
    obtain ⟨w', H', J', rv, q⟩ := hq
    exact ⟨w', H', J'.os, J'.bare, J'.base, J'.hok, rv, q⟩
  have hx : Passes (L2N.CX X.prog X.w) ((cxOf CXg X.prog X.w X.K X.mg X.base Ng qg sg g cdg X.A X.stack s H Eg).tr pn xe) E := L2N.passes_call tk hW
  refine wpAny_call (codeAny_mono rc fun r s' hq => ?_)
  cases r with
  | error e => exact hx pinsZ σZ HZ s1 e s' I1 hq
  | ok fl =>
    cases fl with
    | ret u => exact I1.after hq
    | next => exact False.elim hq
    | brk => exact False.elim hq
    | cont => exact False.elim hq
end
end DL

set_option Elab.async false
set_option linter.all false
set_option maxRecDepth 100000
set_option maxHeartbeats 2000000
/-! A lambda is made, its maker's table known. -/
namespace DL
open PySem PySem.Spec PyProof.Rows L2
section
variable {X : Cx} {pins : List (Addr × Obj)} {σ : L2.St} {H : Hp} {s : Shared}
theorem lam_makeM {T : TQ} {params : Arguments} {body : Expr} {scope : Scope} {pos : Pos} {E : Value → Shared → Prop} {Q : Value → Shared → Prop} (I : Inv X pins σ H s) (M : MkOk T X pos) (hT : TabsQ T H) (hdef : defaultsOf params X.env = ([], [])) (hfree : ∀ y ∈ scope.names, y.2 = .free → ∃ c, X.env.cells.lookup y.1 = some c)
    (h : ∀ (f c' : Addr) (pm ctv : Value) (H1 : Hp) (s' : Shared), Inv X pins σ H1 s' → LamX.ExtN H H1 → (∀ b, H1 b = none → H b = none) → TabsQ T H1 →
      s'.heap.get? f = some (PySem.W.kla_obj "<lambda>" (X.env.qual ++ "<lambda>") params body scope (cloFrom X.env.cells scope.names []) pm c' ctv) → H1 f = none → f ∉ frs X.stack → CoK H1 c' (X.env.qual ++ "<lambda>") → Q (.ref f) s') :
    wpAny (model X.prog X.w) X.A (eval (.Lambda params body scope pos) X.env) Q E s := by
  obtain ⟨hn, M⟩ := M
  obtain ⟨c, P, hcode, C, bP, gP, h2⟩ := M pins σ H s I hT
  exact lam_makeQ I hcode C bP gP h2 hn hdef hfree fun f c' pm ctv H1 s' I1 eN dm T1 hf hfn hfr hco _ => h f c' pm ctv H1 s' I1 eN dm (T1 _ hT) hf hfn hfr hco
end
end DL

set_option Elab.async false
set_option linter.all false
set_option maxRecDepth 100000
set_option maxHeartbeats 2000000
/-! The def that names the handled exception; the defs that catch. -/
namespace DL
open PySem PySem.Spec PyProof.Rows L2
/-- the def that names an error: its promise. Lb: the name of a class -/
structure NamedOk (g : Gx) (Lb : Str → Option Str) (P : Program) (w : World) (K : PySem.W.Frag) (mg : Str → Option Value) (base : Heap) (k : Nat) (f : Addr) (fd : FuncData) (p0 : Str) : Prop where
  run : ∀ (A : Around) (outer : List Env) (s : Shared) (H : Hp) (args : Args) (Q : VK) (E : XK) (p : Addr × Obj) (c l : Str) (ba : Mu) (B : Hp) (bs : MS), L2H.RoomH k A → L2H.Hot1 A p → L2H.PinOk outer H s p → Env0 P w K mg base A outer s H → BindsTo s fd args ([p0].zip [.ref p.1]) → L2N.Zn (.ref (g.ca c)) none p.2 → Lb c = some l →
    Ex ba B H → BagOff ba B → BagIs ba bs H → TabsQ g.T H → (∀ B' H', Step g ba B H B' H' → BagIs ba bs H' → Q (.str l) H') → codeAny (model P w) A (.call (.ref f) args) (CR (L2N.CX P w) outer P w H s Q E) s
/-- what is asked of a caught exception -/
def catW (g : Gx) (Lb : Str → Option Str) (cls : Value) (d : Option Addr) (H : Hp) (Q : VK) : Prop := ∃ (c l : Str) (ba : Mu) (B : Hp) (bs : MS), cls = .ref (g.ca c) ∧ d = none ∧ Lb c = some l ∧ Ex ba B H ∧ BagOff ba B ∧ BagIs ba bs H ∧ TabsQ g.T H ∧ ∀ B' H', Step g ba B H B' H' → BagIs ba bs H' → Q (.str l) H'
section
variable {g : Gx} {Lb : Str → Option Str} {X : Cx} {k i : Nat} {f : Addr} {fd : FuncData} {p0 x n : Str} {cls : Value} {d : Option Addr} {p : Addr × Obj} {p1 p2 pos : Pos}
theorem pe_named (F : NamedOk g Lb X.prog X.w X.K X.mg X.base k f fd p0) (hr : L2H.RoomH k X.A) (hot : L2H.Hot1 X.A p) (hp : p ∈ X.pn) (hz : L2N.Zn cls d p.2) (hg : Gl X x) (hm : X.mg x = some (.ref f)) (hk : PySem.W.keepIn X.K (.ref f) = true) (hb : Binds X.K fd [p0] [])
    (he : PE X (.Name n p1) (tVar i)) (hdb : (x == ("__debug__" : Str)) = false := by decide) (hst : starEach [.Name n p1] X.env = (false, eval (.Name n p1) X.env) :: starEach [] X.env := by rfl) (hpl : (backTo pos (starEach [] X.env)).any (·.1) = false := by rfl) :
    PE X (.Call (.Name x p2) [.Name n p1] [] pos) (fun σ H Q => σ[i]? = some (some (.ref p.1)) ∧ catW g Lb cls d H Q) := by
  refine ⟨fun pins s σ H Q I h => ?_⟩
  obtain ⟨hs, c, l, ba, B, bs, e1, e2, hl, hB, hO, hI, hT, hq⟩ := h
  subst e1 e2
  refine wpAny_Call_Name_kw (ld_glob I hg hm ?_ hdb)
  have ha : PA X [.Name n p1] (tCons (tVar i) tNil) := pa_cons he pa_nil hst
  refine PySem.W.callWith_K (h₀ := X.base) I.ok.mod.kin hk (thn (ha.run pos pins s σ H (fun vs H1 => vs = [.ref p.1] ∧ H1 = H) I ⟨.ref p.1, hs, rfl, rfl⟩) fun us s1 ⟨vs, H1, I1, r, q⟩ => ⟨I1.kIn, ?_⟩) hst hpl
  obtain ⟨ev, eH⟩ := q
  subst ev eH
  obtain ⟨u1, rfl, r1⟩ := vals1 r
  cases (show u1 = Value.ref p.1 from r1)
  have P1 := I1.pin p (List.mem_append_left _ hp)
  have hpin : L2H.PinOk X.stack H1 s1 p := ⟨P1.1, P1.2.1, fun hm => (List.mem_cons.mp (I1.stkSub p.1 hm)).elim P1.2.2.1 P1.2.2.2.1, P1.2.2.2.2⟩
  have b := hb s1 [.ref p.1] I1.kIn rfl
  show wpAny _ _ (call (.ref f) [.ref p.1]) _ _ _
  refine wpAny_call (codeAny_mono (F.run X.A X.stack s1 H1 ⟨[.ref p.1], []⟩ Q (fun _ _ _ => False) p c l ba B bs hr hot hpin I1.env0 b hz hl hB hO hI hT hq) fun r s' hq => ?_)
  cases r with
  | error e =>
    obtain ⟨_, _, _, _, _, _, _, _, _, _, _, _, z⟩ := hq
    exact z.elim
  | ok fl =>
    cases fl with
    | ret u => exact I1.after hq
    | next => exact False.elim hq
    | brk => exact False.elim hq
    | cont => exact False.elim hq
end
/-! ### the defs that catch -/
/-- the reading of a def that calls what it got: tl is the lambda's -/
abbrev TTx := (XK → Hp → VK → Prop) → Hp → VK → Prop
/-- .. that gives the name of the error, or "" -/
def ttErr (g : Gx) (Lb : Str → Option Str) : TTx := fun tl H Q => tl (fun cls d H' => catW g Lb cls d H' Q) H (fun _ H' => Q (.str "") H')
/-- .. that gives what came, and the name -/
def ttTold (g : Gx) (Lb : Str → Option Str) : TTx := fun tl H Q => tl (fun cls d H' => catW g Lb cls d H' fun v H2 => ∀ p, H2 p = none → Q (.ref p) (upd H2 p (.tup [.non, v]))) H (fun v H2 => ([v, .str ""] : List V).length ≤ sizeLine ∧ ∀ p, H2 p = none → Q (.ref p) (upd H2 p (.tup [v, .str ""])))
/-- the def that calls what it got, as LamX.GivesTo, with L2N's exceptions -/
def GivesN (X : Cx) (k : Nat) (Ng : List Str) (x : Str) (sg : Scope) (gf : Addr) (cdg : Value) (bg : List Stmt) (a : Str) (q : Str) (TT : TTx) : Prop :=
  ∀ (f c' : Addr) (s : Shared) (H : Hp) (Q : VK) (tl : XK → Hp → VK → Prop), Room k (X.A.deeper (envOfC x sg s.heap.objs.size gf cdg)) →
    (∀ (W : WX) (pn : List (Addr × Obj)) (xe : Value → Shared → Prop) (E : XK) (p1 p2 : Pos), L2N.Takes ((cxOf (L2N.CX X.prog X.w) X.prog X.w X.K X.mg X.base Ng x sg gf cdg X.A X.stack s H (fun _ _ _ => False)).tr pn xe) W → (∀ cls d σ' H', E cls d H' → W cls d σ' H') →
      PE ((cxOf (L2N.CX X.prog X.w) X.prog X.w X.K X.mg X.base Ng x sg gf cdg X.A X.stack s H (fun _ _ _ => False)).tr pn xe) (.Call (.Name a p1) [] [] p2) (fun σZ HZ Q => σZ[0]? = some (some (.ref f)) ∧ CoK HZ c' q ∧ tl E HZ Q)) →
    CoK H c' q → TT tl H Q →
    ∃ t, PSs (cxOf (L2N.CX X.prog X.w) X.prog X.w X.K X.mg X.base Ng x sg gf cdg X.A X.stack s H (fun _ _ _ => False)) bg t ∧ t { nx := fun _ H' => Q .non H', rt := Q } (L2.start Ng [.ref f]) H
end DL

set_option Elab.async false
set_option linter.all false
set_option maxRecDepth 100000
set_option maxHeartbeats 2000000
/-! The two defs that catch: the name of the error, or "" ; what came and the name. -/
namespace DL
open PySem PySem.Spec PyProof.Rows L2
/-- what is known of the classes that Lb names -/
structure ExFacts (g : Gx) (Lb : Str → Option Str) (K : PySem.W.Frag) (CS : Addr) : Prop where
  exm : ∀ c l, Lb c = some l → PySem.W.exmOne K (.ref (g.ca c)) (.ref CS) = some true
  exc : ∀ c l, Lb c = some l → ExcC K (g.ca c)
  val : ∀ c l, Lb c = some l → PySem.W.kitOne K (.ref (g.ca c)) (.type "ValueError") = some true
theorem hot_mark {A : Around} {a : Addr} {oe : Obj} {cls : Value} {d : Option Addr} (hz : L2N.Zn cls d oe) (hf : ∃ vs, oe.data = .fields vs) : L2H.Hot1 (A.mark (some (.ref a))) (a, oe) := by
  obtain ⟨vs, e⟩ := hf
  exact ⟨rfl, vs, e, hz.2.2 vs e⟩
section
variable {g : Gx} {Lb : Str → Option Str} {X : Cx} {k : Nat} {CS nf gf : Addr} {nfd : FuncData} {p0 x a n nm q odd : Str} {sg : Scope} {Ng : List Str} {cdg : Value} {j j2 j3 : Nat} {p1 p2 p3 p4 p5 p6 p7 p8 p9 q1 q2 q3 q4 q5 q6 q7 q8 q9 : Pos}
/-- try: call() / except StrokeError as e: return named(e) if isinstance(e, ValueError) else "odd" / return "" -/
theorem err_gives (EF : ExFacts g Lb X.K CS) (F : NamedOk g Lb X.prog X.w X.K X.mg X.base k nf nfd p0) (hNd : Ng.Nodup) (hi : Ng[1]? = some n) (hln : sg.names.lookup n = some .local) (hge : sg.names.lookup ("StrokeError" : Str) = some .globalImplicit) (hme : X.mg "StrokeError" = some (.ref CS))
    (hgi : sg.names.lookup ("isinstance" : Str) = some .globalImplicit) (hmi : X.mg "isinstance" = none) (hgv : sg.names.lookup ("ValueError" : Str) = some .globalImplicit) (hmv : X.mg "ValueError" = none) (hgn : sg.names.lookup nm = some .globalImplicit) (hmn : X.mg nm = some (.ref nf)) (hkn : PySem.W.keepIn X.K (.ref nf) = true) (hb : Binds X.K nfd [p0] [])
    (hdn : (n == ("__debug__" : Str)) = false) (hcn : (n == ("__classdict__" : Str)) = false) (hdm : (nm == ("__debug__" : Str)) = false) (h0 : ∀ f : Addr, (L2.start Ng [V.ref f])[0]? = some (some (V.ref f))) :
    GivesN X k Ng x sg gf cdg [.Try [.Expr (.Call (.Name a p1) [] [] p2) p3] [.ExceptHandler (some (.Name "StrokeError" p4)) (some n) [.Return (some (.IfExp (.Call (.Name "isinstance" p5) [.Name n p6, .Name "ValueError" p7] [] p8) (.Call (.Name nm q1) [.Name n q2] [] q3) (.Constant (.str odd) j q4) q5)) q6] q7] [] [] q8, .Return (some (.Constant (.str "") j2 q9)) p9] a q (ttErr g Lb) := by
  intro f c' s H Q tl hr act hc h
  refine ⟨_, pss_cons (L2N.ps_try_as (X := cxOf (L2N.CX X.prog X.w) X.prog X.w X.K X.mg X.base Ng x sg gf cdg X.A X.stack s H (fun _ _ _ => False)) (i := 1) (c := .ref CS) (Wout := fun _ _ _ _ => False)
      (tb := fun W D σ H => ∃ Ech : XK, (∀ cls d σ' H', Ech cls d H' → W cls d σ' H') ∧ σ[0]? = some (some (.ref f)) ∧ CoK H c' q ∧ tl Ech H (fun _ H1 => D.nx σ H1))
      (ts := fun b cls d D σ H => (σ.length = Ng.length → σ[1]? = some (some (.ref b))) ∧ catW g Lb cls d H D.rt)
      rfl rfl hNd hi hln ⟨hge, by decide, .inl hme⟩ (L2N.takes_of rfl rfl rfl rfl) (fun W pn xe tk _ => ?_) (fun b oe cls d pn hz hf => ?_)) (pss_one (ps_ret pe_str)), ?_⟩
  · refine ⟨fun pins s' σ H' D I h' => ?_⟩
    obtain ⟨Ech, hW, h1, h2, h3⟩ := h'
    have hq := pss_one (ps_expr (pos := p3) (act W pn xe Ech p1 p2 tk hW))
    exact hq.run pins s' σ H' D I ⟨h1, h2, h3⟩
  · have hv : Vis sg n := .inl hln
    have he : ∀ p, PE ((cxOf (L2N.CX X.prog X.w) X.prog X.w X.K X.mg X.base Ng x sg gf cdg X.A X.stack s H (fun _ _ _ => False)).suite b ((b, oe) :: pn)) (.Name n p) (tVar 1) := fun p => pe_var hi hv hdn hcn
    refine ⟨fun pins s' σ H' D I h' => ?_⟩
    obtain ⟨hs, hw⟩ := h'
    have hs := hs I.len
    obtain ⟨c, l, ba, B, bs, e1, e2, hl, hx⟩ := id hw
    subst e1 e2
    have hnamed := pe_named (X := (cxOf (L2N.CX X.prog X.w) X.prog X.w X.K X.mg X.base Ng x sg gf cdg X.A X.stack s H (fun _ _ _ => False)).suite b ((b, oe) :: pn)) (pos := q3) (p2 := q1) F (L2H.roomH_of hr |> fun z => ⟨z.dp, z.un⟩) (hot_mark hz hf) List.mem_cons_self hz hgn hmn hkn hb (he q2) hdm
    have hisi := pe_callB (X := (cxOf (L2N.CX X.prog X.w) X.prog X.w X.K X.mg X.base Ng x sg gf cdg X.A X.stack s H (fun _ _ _ => False)).suite b ((b, oe) :: pn)) (pos := p8) (p := p5) (call_isXT (x1 := b) List.mem_cons_self (EF.exc c l hl) hz.zc hf (EF.val c l hl)) hgi hmi boot_isinstance
      (pa_cons (he p6) (pa_cons (pe_bltn (pos := p7) (v := .ty "ValueError") hgv hmv (by decide +kernel) rfl (by decide) (by decide)) pa_nil))
    have hq := pss_one (ps_ret (pos := q6) (pe_ifExp (pos := q5) (pt_val hisi) hnamed (pe_str (x := odd) (j := j) (pos := q4))))
    refine hq.run pins s' σ H' D I ?_
    exact ⟨.ref b, hs, rfl, _, rfl, hs, hw⟩
  · refine ⟨_, fun cls d σ' H' hw => ?_, h0 f, hc, h⟩
    obtain ⟨c, l, ba, B, bs, e1, e2, hl, hx⟩ := id hw
    subst e1 e2
    refine ⟨true, EF.exm c l hl, fun _ b hb' => ⟨fun hl2 => ?_, hw⟩, fun z => (nomatch z)⟩
    rw [List.length_set] at hl2
    have l1 := (List.getElem?_eq_some_iff.mp hi).1
    rw [List.getElem?_set_self (by omega)]
/-- try: return (call(), "") / except StrokeError as e: return (None, named(e)) -/
theorem told_gives {jn : Nat} {k1 k2 : Nat} (EF : ExFacts g Lb X.K CS) (F : NamedOk g Lb X.prog X.w X.K X.mg X.base k nf nfd p0) (hNd : Ng.Nodup) (hi : Ng[1]? = some n) (hln : sg.names.lookup n = some .local) (hge : sg.names.lookup ("StrokeError" : Str) = some .globalImplicit) (hme : X.mg "StrokeError" = some (.ref CS))
    (hgn : sg.names.lookup nm = some .globalImplicit) (hmn : X.mg nm = some (.ref nf)) (hkn : PySem.W.keepIn X.K (.ref nf) = true) (hb : Binds X.K nfd [p0] [])
    (hdn : (n == ("__debug__" : Str)) = false) (hcn : (n == ("__classdict__" : Str)) = false) (hdm : (nm == ("__debug__" : Str)) = false) (h0 : ∀ f : Addr, (L2.start Ng [V.ref f])[0]? = some (some (V.ref f))) :
    GivesN X k Ng x sg gf cdg [.Try [.Return (some (.Tuple [.Call (.Name a p1) [] [] p2, .Constant (.str "") j p3] k1 p5)) p9] [.ExceptHandler (some (.Name "StrokeError" p4)) (some n) [.Return (some (.Tuple [.Constant .none jn p6, .Call (.Name nm q1) [.Name n q2] [] q3] k2 q5)) q6] q7] [] [] q8] a q (ttTold g Lb) := by
  intro f c' s H Q tl hr act hc h
  refine ⟨_, pss_one (L2N.ps_try_as (X := cxOf (L2N.CX X.prog X.w) X.prog X.w X.K X.mg X.base Ng x sg gf cdg X.A X.stack s H (fun _ _ _ => False)) (i := 1) (c := .ref CS) (Wout := fun _ _ _ _ => False)
      (tb := fun W D σ H => ∃ Ech : XK, (∀ cls d σ' H', Ech cls d H' → W cls d σ' H') ∧ σ[0]? = some (some (.ref f)) ∧ CoK H c' q ∧ tl Ech H (fun v H1 => ([v, .str ""] : List V).length ≤ sizeLine ∧ ∀ p, H1 p = none → D.rt (.ref p) (upd H1 p (.tup [v, .str ""]))))
      (ts := fun b cls d D σ H => (σ.length = Ng.length → σ[1]? = some (some (.ref b))) ∧ catW g Lb cls d H (fun v H2 => ∀ p, H2 p = none → D.rt (.ref p) (upd H2 p (.tup [.non, v]))))
      rfl rfl hNd hi hln ⟨hge, by decide, .inl hme⟩ (L2N.takes_of rfl rfl rfl rfl) (fun W pn xe tk _ => ?_) (fun b oe cls d pn hz hf => ?_)), ?_⟩
  · refine ⟨fun pins s' σ H' D I h' => ?_⟩
    obtain ⟨Ech, hW, h1, h2, h3⟩ := h'
    have hq := pss_one (ps_ret (pos := p9) (pe_tup (x1 := k1) (pos := p5) (pa_cons (act W pn xe Ech p1 p2 tk hW) (pa_cons (pe_str (x := "") (j := j) (pos := p3)) pa_nil))))
    exact hq.run pins s' σ H' D I ⟨h1, h2, h3⟩
  · have hv : Vis sg n := .inl hln
    have he : ∀ p, PE ((cxOf (L2N.CX X.prog X.w) X.prog X.w X.K X.mg X.base Ng x sg gf cdg X.A X.stack s H (fun _ _ _ => False)).suite b ((b, oe) :: pn)) (.Name n p) (tVar 1) := fun p => pe_var hi hv hdn hcn
    refine ⟨fun pins s' σ H' D I h' => ?_⟩
    obtain ⟨hs, c, l, ba, B, bs, e1, e2, hl, hx1, hx2, hx3, hx4, hx⟩ := h'
    have hs := hs I.len
    have hnamed := pe_named (X := (cxOf (L2N.CX X.prog X.w) X.prog X.w X.K X.mg X.base Ng x sg gf cdg X.A X.stack s H (fun _ _ _ => False)).suite b ((b, oe) :: pn)) (pos := q3) (p2 := q1) F (L2H.roomH_of hr |> fun z => ⟨z.dp, z.un⟩) (hot_mark hz hf) List.mem_cons_self hz hgn hmn hkn hb (he q2) hdm
    have hq := pss_one (ps_ret (pos := q6) (pe_tup (x1 := k2) (pos := q5) (pa_cons (pe_non (j := jn) (pos := p6)) (pa_cons hnamed pa_nil))))
    refine hq.run pins s' σ H' D I ?_
    exact ⟨hs, c, l, ba, B, bs, e1, e2, hl, hx1, hx2, hx3, hx4, fun B' H'' t i => ⟨(show 2 ≤ sizeLine by decide), hx B' H'' t i⟩⟩
  · refine ⟨_, fun cls d σ' H' hw => ?_, h0 f, hc, h⟩
    obtain ⟨c, l, ba, B, bs, e1, e2, hl, hx⟩ := id hw
    subst e1 e2
    refine ⟨true, EF.exm c l hl, fun _ b hb' => ⟨fun hl2 => ?_, hw⟩, fun z => (nomatch z)⟩
    rw [List.length_set] at hl2
    have l1 := (List.getElem?_eq_some_iff.mp hi).1
    rw [List.getElem?_set_self (by omega)]
end
end DL

set_option Elab.async false
set_option linter.all false
set_option maxRecDepth 100000
set_option maxHeartbeats 2000000
/-! x(lambda: body), x a def that calls what it got. -/
namespace DL
open PySem PySem.Spec PyProof.Rows L2
def tLamN (T : TQ) (TT : TTx) (t : XK → TE) : TE := fun σ H Q => TabsQ T H ∧ ∀ H1, LamX.ExtN H H1 → (∀ b, H1 b = none → H b = none) → TabsQ T H1 → TT (fun E H' Q' => t E σ H' Q') H1 Q
section
variable {X : Cx}
theorem pe_lamcallN {T : TQ} {TT : TTx} {x a : Str} {gf c P : Addr} {k k' : Nat} {pg : Arguments} {bg : List Stmt} {sg : Scope} {dV kV doc pm cdv ct oc : Value} {an od : Option Addr} {osl : Array (Option Value)} {Ng : List Str}
    {params : Arguments} {body : Expr} {scope : Scope} {t : XK → TE} {p lpos pos : Pos} (hg : Gl X x) (hm : X.mg x = some (.ref gf)) (hk : PySem.W.keepIn X.K (.ref gf) = true)
    (lk : X.K.lookup gf = some ⟨oc, od, .func (PySem.W.fnOf x x pg bg sg dV kV doc pm an cdv ct), osl⟩) (hcg : PySem.W.codeIn X.K cdv x = true) (hb : L2.Binds X.K (PySem.W.fnOf x x pg bg sg dV kV doc pm an cdv ct) [a] []) (Sg : FnScope Ng [a] sg) (hNg : Ng[0]? = some a) (hva : Vis sg a)
    (hG : GivesN X k' Ng x sg gf cdv bg a (X.env.qual ++ "<lambda>") TT)
    (TB : LamX.TabB X.base X.mg c P) (hcode : X.env.code = .ref c) (hmT : P ∈ T.ps) (hn : T.nm lpos.line lpos.col = X.env.qual ++ "<lambda>") (hr : Room (k + 2) X.A) (hk' : k' ≤ k + 1) (L : LamX.LamS X.env.scope scope) (hdef : defaultsOf params X.env = ([], []))
    (hbind : ∀ (q : Str) (cl : List (Str × Addr)) (pm cv ctv : Value), bindArgs (PySem.W.kla_fn "<lambda>" q params body scope cl pm cv ctv) ⟨[], []⟩ = pure [])
    (hbody : ∀ (A : Around) (outer : List Env) (s : Shared) (H : Hp) (E : XK) (f c' : Addr), Still T X scope lpos outer H c' → Room k (A.deeper (LamX.lamEnv X scope s.heap.objs.size f c')) → PE (lamX X A outer s H E scope f c') body (t E))
    (hdb : (x == ("__debug__" : Str)) = false := by decide) (hd : (a == ("__debug__" : Str)) = false := by decide) (hcd : (a == ("__classdict__" : Str)) = false := by decide) :
    PE X (.Call (.Name x p) [.Lambda params body scope lpos] [] pos) (tLamN T TT t) := by
  refine ⟨fun pins s σ H Q I h => ?_⟩
  obtain ⟨hT, h⟩ := h
  refine wpAny_Call_Name_kw (ld_glob I hg hm ?_ hdb)
  refine PySem.W.callWith_K (h₀ := X.base) I.ok.mod.kin hk ?_ (by rfl) (by rfl)
  show wpAny _ _ (spliced ((false, eval (.Lambda params body scope lpos) X.env) :: backTo pos (starEach [] X.env))) _ _ s
  refine Calls.spliced_cons (lam_makeQ I hcode (TB.code.keeps I.bk) (TB.bm.keeps I.bk) TB.gP (hT P hmT).two hn hdef (L.has I.ok) fun f c' pm' ctv H1 s' I1 eN dm T1 hf hfn hfr hco hpl => ?_)
  refine Calls.spliced_nil ⟨I1.kIn, ?_⟩
  have rc : codeAny (model X.prog X.w) X.A (.call (.ref gf) ⟨[.ref f], []⟩) (CR (L2N.CX X.prog X.w) X.stack X.prog X.w H1 s' Q (fun _ _ _ => False)) s' := by
    refine LamX.run_ofS (N := Ng) (ps := [a]) (us := [.ref f]) (vs := [.ref f]) lk hcg Sg hr I1.env0 (hb s' [.ref f] I1.kIn rfl) (.cons rfl .nil) rfl fun hr' => ?_
    exact hG f c' s' H1 Q (fun E H' Q' => t E σ H' Q') (hr'.mono hk') (fun W pn xe E p1 p2 tk hW => pe_actN (i := 0) I1 ⟨P, hmT, hpl⟩ L hf hfn hfr (hbind _ _ _ _ _) tk hW hr' (fun A outer s H st hr2 => hbody A outer s H E f c' st hr2) hNg hva hd hcd) hco (h H1 eN dm (T1 _ hT))
  refine wpAny_call (codeAny_mono rc fun r s2 hq => ?_)
  cases r with
  | error e =>
    obtain ⟨_, _, _, _, _, _, _, _, _, _, _, _, z⟩ := hq
    exact z.elim
  | ok fl =>
    cases fl with
    | ret u => exact I1.after hq
    | next => exact False.elim hq
    | brk => exact False.elim hq
    | cont => exact False.elim hq
end
end DL

set_option Elab.async false
set_option linter.all false
set_option maxRecDepth 100000
set_option maxHeartbeats 2000000
/-! .. on data. -/
namespace DL
open PySem PySem.Spec PyProof.Rows L2
def errM (Lb : Str → Option Str) (m : Ga → M D) : Ga → M D := fun Γ b => match m Γ b with
  | some (.ok _, b') => some (.ok (.str ""), b')
  | some (.ex c, b') => (match Lb c with
    | some l => some (.ok (.str l), b')
    | none => none)
  | none => none
def toldM (Lb : Str → Option Str) (m : Ga → M D) : Ga → M D := fun Γ b => match m Γ b with
  | some (.ok x, b') => some (.ok (.tup [x, .str ""]), b')
  | some (.ex c, b') => (match Lb c with
    | some l => some (.ok (.tup [.non, .str l]), b')
    | none => none)
  | none => none
section
variable {g : Gx} {Lb : Str → Option Str} {K : PySem.W.Frag} {E : XK} {t : XK → TE} {m : Ga → M D}
theorem Step.table {ba : Mu} {B H H1 : Hp} (e : Ex ba B H) (eN : LamX.ExtN H H1) (dm : ∀ b, H1 b = none → H b = none) (T1 : TabsQ g.T H1) : Step g ba B H B H1 :=
  ⟨Ex.refl _, ⟨fun b o _ h n => eN b o h n, dm⟩, ⟨fun b o n h z => eN b o (e.keep b o n h z) z, fun b z => e.dom b (dm b z)⟩, fun _ _ _ _ z => z, fun _ => T1⟩
theorem BagIs.table {ba : Mu} {bs : MS} {H H1 : Hp} (b : BagIs ba bs H) (eN : LamX.ExtN H H1) : BagIs ba bs H1 := b.ext eN
theorem dg_lamErr (ht : ∀ E, DG g K E (RD K) (t E) m) : DG g K E (RD K) (tLamN g.T (ttErr g Lb) t) (errM Lb m) := by
  intro ba B0 H0 σ Γ bs B H s Q hn h1 h2
  refine ⟨s.tab, fun H1 eN dm T1 => ?_⟩
  have t1 : Step g ba B H B H1 := Step.table s.sub eN dm T1
  have i1 := s.bag.table eN
  have s1 := s.step t1 i1
  refine ht _ ba B0 H0 σ Γ bs B H1 s1 _ (fun z => hn (by unfold errM; rw [z])) (fun x bs' e v B' H' t' b' d' => ?_) (fun c bs' e B' H' t' b' => ?_)
  · exact h1 (.str "") bs' (by unfold errM; rw [e]) _ B' H' (t1.trans i1 t') b' den_str'
  · cases hl : Lb c with
    | none => exact absurd (by unfold errM; rw [e]; dsimp only; rw [hl]) hn
    | some l =>
      exact ⟨c, l, ba, B', bs', rfl, rfl, hl, t'.bh, t'.off i1 s1.off, b', t'.tb T1, fun B2 H2 t2 b2 => h1 (.str l) bs' (by unfold errM; rw [e]; dsimp only; rw [hl]) _ B2 H2 ((t1.trans i1 t').trans b' t2) b2 den_str'⟩
theorem dg_lamTold (ht : ∀ E, DG g K E (RD K) (t E) m) : DG g K E (RD K) (tLamN g.T (ttTold g Lb) t) (toldM Lb m) := by
  intro ba B0 H0 σ Γ bs B H s Q hn h1 h2
  refine ⟨s.tab, fun H1 eN dm T1 => ?_⟩
  have t1 : Step g ba B H B H1 := Step.table s.sub eN dm T1
  have i1 := s.bag.table eN
  have s1 := s.step t1 i1
  refine ht _ ba B0 H0 σ Γ bs B H1 s1 _ (fun z => hn (by unfold toldM; rw [z])) (fun x bs' e v B' H' t' b' d' => ?_) (fun c bs' e B' H' t' b' => ?_)
  · refine ⟨(show 2 ≤ sizeLine by decide), fun p hp => ?_⟩
    have t2 : Step g ba B' H' (upd B' p (.tup [v, .str ""])) (upd H' p (.tup [v, .str ""])) := Step.new t'.bh hp
    exact h1 _ bs' (by unfold toldM; rw [e]) _ _ _ ((t1.trans i1 t').trans b' t2) (b'.new hp) (den_tup' (SqT.of upd_same) (dens_cons (Den.mono t2.bb (t'.off i1 s1.off) _ _ d') (dens_cons den_str' dens_nil)))
  · cases hl : Lb c with
    | none => exact absurd (by unfold toldM; rw [e]; dsimp only; rw [hl]) hn
    | some l =>
      refine ⟨c, l, ba, B', bs', rfl, rfl, hl, t'.bh, t'.off i1 s1.off, b', t'.tb T1, fun B2 H2 t2 b2 p hp => ?_⟩
      have t3 : Step g ba B2 H2 (upd B2 p (.tup [.non, .str l])) (upd H2 p (.tup [.non, .str l])) := Step.new t2.bh hp
      exact h1 _ bs' (by unfold toldM; rw [e]; dsimp only; rw [hl]) _ _ _ (((t1.trans i1 t').trans b' t2).trans b2 t3) (b2.new hp) (den_tup' (SqT.of upd_same) (dens_cons den_non' (dens_cons den_str' dens_nil)))
end
end DL

set_option Elab.async false
set_option linter.all false
set_option maxRecDepth 100000
set_option maxHeartbeats 2000000
/-! The combined rules: name(lambda: body). -/
namespace DL
open PySem PySem.Spec PyProof.Rows L2
/-- the def x, found at the module's name, calls what it got, as TT tells -/
def OkE (P : Program) (w : World) (K : PySem.W.Frag) (mg : Str → Option Value) (base : Heap) (k : Nat) (x : Str) (TT : TTx) : Prop :=
  ∃ (gf : Addr) (a : Str) (Ng : List Str) (pg : Arguments) (bg : List Stmt) (sg : Scope) (dV kV doc pm cdv ct oc : Value) (an od : Option Addr) (osl : Array (Option Value)),
    mg x = some (.ref gf) ∧ PySem.W.keepIn K (.ref gf) = true ∧ K.lookup gf = some ⟨oc, od, .func (PySem.W.fnOf x x pg bg sg dV kV doc pm an cdv ct), osl⟩ ∧ PySem.W.codeIn K cdv x = true ∧ L2.Binds K (PySem.W.fnOf x x pg bg sg dV kV doc pm an cdv ct) [a] [] ∧
    FnScope Ng [a] sg ∧ Ng[0]? = some a ∧ Vis sg a ∧ (a == ("__debug__" : Str)) = false ∧ (a == ("__classdict__" : Str)) = false ∧ ∀ (X : Cx) (q : Str), X.prog = P → X.w = w → X.K = K → X.mg = mg → X.base = base → GivesN X k Ng x sg gf cdv bg a q TT
/-- what the maker's table and the lambda's words are asked for -/
structure LamF (g : Gx) (X : Cx) (scope : Scope) (params : Arguments) (body : Expr) (lpos : Pos) : Prop where
  ex : ∃ c P, LamX.TabB X.base X.mg c P ∧ X.env.code = .ref c ∧ P ∈ g.T.ps ∧ g.T.nm lpos.line lpos.col = X.env.qual ++ "<lambda>"
  L : LamX.LamS X.env.scope scope
  df : defaultsOf params X.env = ([], [])
  bind : ∀ (q : Str) (cl : List (Str × Addr)) (pm cv ctv : Value), bindArgs (PySem.W.kla_fn "<lambda>" q params body scope cl pm cv ctv) ⟨[], []⟩ = pure []
section
variable {g : Gx} {Lb : Str → Option Str} {X : Cx} {E : XK} {m : Ga → M D} {x : Str} {k k' : Nat} {params : Arguments} {body : Expr} {scope : Scope} {p lpos pos : Pos}
theorem pe_lam {TT : TTx} {t : XK → TE} (O : OkE X.prog X.w X.K X.mg X.base k' x TT) (F : LamF g X scope params body lpos) (hr : Room (k + 2) X.A) (hk' : k' ≤ k + 1)
    (hbody : ∀ (A : Around) (outer : List Env) (s : Shared) (H : Hp) (E : XK) (f c' : Addr), Still g.T X scope lpos outer H c' → Room k (A.deeper (LamX.lamEnv X scope s.heap.objs.size f c')) → PE (lamX X A outer s H E scope f c') body (t E))
    (hg : Gl X x) (hdb : (x == ("__debug__" : Str)) = false) : PE X (.Call (.Name x p) [.Lambda params body scope lpos] [] pos) (tLamN g.T TT t) := by
  obtain ⟨gf, a, Ng, pg, bg, sg, dV, kV, doc, pm, cdv, ct, oc, an, od, osl, hm, hk, lk, hcg, hb, Sg, hNg, hva, hd, hcd, hG⟩ := O
  obtain ⟨⟨c, P, TB, hc, hmT, hn⟩, L, df, bd⟩ := F
  exact pe_lamcallN hg hm hk lk hcg hb Sg hNg hva (hG X _ rfl rfl rfl rfl rfl) TB hc hmT hn hr hk' L df bd hbody hdb hd hcd
theorem pd_lam0 {TT : TTx} {L : (Ga → M D) → Ga → M D} (O : OkE X.prog X.w X.K X.mg X.base k' x TT) (F : LamF g X scope params body lpos) (hr : Room (k + 2) X.A) (hk' : k' ≤ k + 1)
    (hL : ∀ t : XK → TE, (∀ E, DG g X.K E (RD X.K) (t E) m) → DG g X.K E (RD X.K) (tLamN g.T TT t) (L m))
    (hbody : ∀ (A : Around) (outer : List Env) (s : Shared) (H : Hp) (E : XK) (f c' : Addr), Still g.T X scope lpos outer H c' → Room k (A.deeper (LamX.lamEnv X scope s.heap.objs.size f c')) → ∃ t, PD g E (lamX X A outer s H E scope f c') body t m)
    (hg : Gl X x) (hdb : (x == ("__debug__" : Str)) = false) : ∃ t, PD g E X (.Call (.Name x p) [.Lambda params body scope lpos] [] pos) t (L m) := by
  let tU : XK → TE := fun E σ H Q => ∀ (A : Around) (outer : List Env) (s0 : Shared) (H0 : Hp) (f c' : Addr) (st : Still g.T X scope lpos outer H0 c') (hr : Room k (A.deeper (LamX.lamEnv X scope s0.heap.objs.size f c'))), (hbody A outer s0 H0 E f c' st hr).choose σ H Q
  refine ⟨tLamN g.T TT tU, pe_lam O F hr hk' (fun A outer s H E f c' st hr => ⟨fun pins s' σ H' Q I h => (hbody A outer s H E f c' st hr).choose_spec.pe.run pins s' σ H' Q I (h A outer s H f c' st hr)⟩) hg hdb, hL tU fun E => ?_⟩
  intro ba B0 H0 σ Γ bs B H s Q hn h1 h2
  exact fun A outer s0 H00 f c' st hr => (hbody A outer s0 H00 E f c' st hr).choose_spec.de ba B0 H0 σ Γ bs B H s Q hn h1 h2
theorem pd_lamErr (O : OkE X.prog X.w X.K X.mg X.base k' x (ttErr g Lb)) (F : LamF g X scope params body lpos) (hr : Room (k + 2) X.A) (hk' : k' ≤ k + 1)
    (hbody : ∀ (A : Around) (outer : List Env) (s : Shared) (H : Hp) (E : XK) (f c' : Addr), Still g.T X scope lpos outer H c' → Room k (A.deeper (LamX.lamEnv X scope s.heap.objs.size f c')) → ∃ t, PD g E (lamX X A outer s H E scope f c') body t m)
    (hg : Gl X x := by rfl) (hdb : (x == ("__debug__" : Str)) = false := by decide) : ∃ t, PD g E X (.Call (.Name x p) [.Lambda params body scope lpos] [] pos) t (errM Lb m) := pd_lam0 O F hr hk' (fun t ht => dg_lamErr ht) hbody hg hdb
theorem pd_lamTold (O : OkE X.prog X.w X.K X.mg X.base k' x (ttTold g Lb)) (F : LamF g X scope params body lpos) (hr : Room (k + 2) X.A) (hk' : k' ≤ k + 1)
    (hbody : ∀ (A : Around) (outer : List Env) (s : Shared) (H : Hp) (E : XK) (f c' : Addr), Still g.T X scope lpos outer H c' → Room k (A.deeper (LamX.lamEnv X scope s.heap.objs.size f c')) → ∃ t, PD g E (lamX X A outer s H E scope f c') body t m)
    (hg : Gl X x := by rfl) (hdb : (x == ("__debug__" : Str)) = false := by decide) : ∃ t, PD g E X (.Call (.Name x p) [.Lambda params body scope lpos] [] pos) t (toldM Lb m) := pd_lam0 O F hr hk' (fun t ht => dg_lamTold ht) hbody hg hdb
end
end DL

set_option Elab.async false
set_option linter.all false
set_option maxRecDepth 100000
set_option maxHeartbeats 2000000
/-! The def that names the handled exception, by its body. -/
namespace DL
open PySem PySem.Spec PyProof.Rows L2
/-! the card set aside -/
def Mu.noc (m : Mu) : Mu := ⟨m.bag, none, m.cls, [], []⟩
theorem noc_has {m : Mu} {b : Addr} (h : m.noc.has b) : m.bag = some b := by
  rcases h with h | ⟨c, hc, _⟩
  · exact h
  · cases hc
theorem Ex.weak {m m' : Mu} {H H' : Hp} (k : ∀ b, m'.has b → m.has b) (e : Ex m' H H') : Ex m H H' := ⟨fun b o n h t => e.keep b o (fun z => n (k b z)) h t, e.dom⟩
theorem Step.noc {g : Gx} {m : Mu} {B H B' H' : Hp} (t : Step g m.noc B H B' H') : Step g m B H B' H' :=
  ⟨Ex.weak (fun _ z => .inl (noc_has z)) t.bb, Ex.weak (fun _ z => .inl (noc_has z)) t.hh, Ex.weak (fun _ z => .inl (noc_has z)) t.bh, t.nw, t.tb⟩
theorem Ex.noc {m : Mu} {B H : Hp} (e : Ex m B H) (f : BagOff m B) : Ex m.noc B H := ⟨fun b o _ h t => e.keep b o (fun z => by rw [f b z] at h; cases h) h t, e.dom⟩
theorem BagOff.noc {m : Mu} {B : Hp} (f : BagOff m B) : BagOff m.noc B := fun b z => f b (.inl (noc_has z))
def MS.noc (b : MS) : MS := { b with cds := [] }
theorem BagIs.noc {m : Mu} {bs : MS} {H : Hp} (i : BagIs m bs H) : BagIs m.noc bs.noc H := ⟨i.bag, rfl, fun c hc => by cases hc⟩
theorem BagIs.unnoc {m : Mu} {bs : MS} {H H' : Hp} (i : BagIs m bs H) (e : Ex m.noc H H') (j : BagIs m.noc bs.noc H') : BagIs m bs H' :=
  ⟨j.bag, i.cds, fun c hc => by
    obtain ⟨p, h1, h2, h3⟩ := i.card c hc
    refine ⟨p, e.keep _ _ (fun z => ?_) h1 (fun _ z => by cases z), e.keep _ _ (fun z => ?_) h2 (fun _ z => by cases z), e.keep _ _ (fun z => ?_) h3 (fun _ z => by cases z)⟩
    · rw [i.bag _ (noc_has z)] at h1; cases h1
    · rw [i.bag _ (noc_has z)] at h2; cases h2
    · rw [i.bag _ (noc_has z)] at h3; cases h3⟩
/-- the def x names a handled exception -/
def OkH (g : Gx) (Lb : Str → Option Str) (P : Program) (w : World) (K : PySem.W.Frag) (mg : Str → Option Value) (base : Heap) (k : Nat) (x p0 : Str) : Prop :=
  ∃ fd, NamedOk g Lb P w K mg base k (He.ga K x) fd p0 ∧ Binds K fd [p0] [] ∧ mg x = some (.ref (He.ga K x)) ∧ PySem.W.keepIn K (.ref (He.ga K x)) = true
section
variable {g : Gx} {Lb : Str → Option Str} {P : Program} {w : World} {K : PySem.W.Frag} {mg : Str → Option Value} {base : Heap}
theorem okH {x p0 : Str} {st : Stmt} {N : List Str} {k : Nat} (F : DefF K mg x st) (S : FnScope N [p0] (defScope st)) (hps : 1 ≤ N.length)
    (hb : ∀ (kV doc pm : Value) (an : Option Addr) (cdv ct : Value) (us : List Value), us.length = [p0].length → bindArgs (PySem.W.fnOf x x (defArgs st) (defBody st) (defScope st) .none kV doc pm an cdv ct) ⟨us, []⟩ = pure ([p0].zip us))
    (hbody : ∀ (f : Addr) (cdv : Value) (A : Around) (outer : List Env) (s : Shared) (H : Hp) (E : XK) (p : Addr × Obj) (c l : Str), L2H.Hot1 A p → L2H.RoomH k (A.deeper (envOfC x (defScope st) s.heap.objs.size f cdv)) → L2N.Zn (.ref (g.ca c)) none p.2 → Lb c = some l →
      ∃ t m, PDSs g E (L2H.cxH (L2N.CX P w) P w K mg base N x (defScope st) f cdv A outer s H E p) (defBody st) t m ∧ ∀ bs, m (initG N.length [.obj (.ref p.1)]) bs = some (.ok (.rt (.str l)), bs))
    (hgd : ∀ ba B H, g.good ba B H := by exact fun _ _ _ => True.intro) : OkH g Lb P w K mg base (k + 1) x p0 := by
  obtain ⟨fd, F, hm⟩ := F
  obtain ⟨oc, od, dV, kV, doc, pm, an, cdv, ct, osl, e, lk, hcd, hdv, hkv⟩ := F.ex
  have hdn : dV = .none := by
    rcases hdv with ⟨_, h⟩ | ⟨h, _⟩
    · exact h
    · exact absurd rfl h
  subst hdn
  have F' : Fun K x x st (He.ga K x) fd := ⟨⟨oc, od, kV, doc, pm, an, cdv, ct, osl, e, lk, hcd⟩, F.kp⟩
  refine ⟨fd, ⟨fun A outer s H args Q E p c l ba B bs hr hot hpin e0 hbd hz hl hB hO hI tab hq => ?_⟩, F'.binds hb, hm, F.kp⟩
  subst e
  have KX : K.In s.heap := e0.mod.kin.keeps fun b o e => (e0.bs b o e).1
  have lim : s.heap.NoLimit := e0.mod.nolimit.keeps fun b o e => (e0.bs b o e).1
  have hkind : ∀ y ∈ [p0].zip [Value.ref p.1], (defScope st).names.lookup y.1 = some .local ∨ ((defScope st).names.lookup y.1 = some .cell ∧ ((cellsFrom (s.heap.objs.size + 1) (defScope st).names []).lookup y.1).isSome = true) := fun ⟨n, v⟩ hy => by
    rcases S.par n (List.of_mem_zip hy).1 with q | q
    · exact .inl q
    · exact .inr ⟨q, PySem.W.cellsFrom_some _ _ _ (.inl q)⟩
  refine codeAny_call_function hr.depth (KX _ _ lk) rfl S.co S.gen rfl (PySem.W.codeRec_of KX hcd) (hbd _ _ _ _ ?_)
  refine wpAny_newFunctionEnv_cells S.kind hkind fun env he s1 x1 => ?_
  subst he
  refine ⟨lim.keeps x1.toInCall.keep, codeAny_func ?_⟩
  obtain ⟨t, m, ht, hm2⟩ := hbody _ cdv A outer s H E p c l hot (hr.deeper _) hz hl
  have I := L2H.inv_startH (CX := L2N.CX P w) (vs := [V.ref p.1]) (E := E) S hpin e0 rfl (.cons rfl .nil) x1
  have hd : Dens K ba.noc B [.obj (.ref p.1)] [.ref p.1] := dens_cons den_obj' dens_nil
  have hw : t { nx := fun _ H' => Q .non H', rt := Q } (L2.start N [V.ref p.1]) H := by
    refine ht.de ba.noc B H _ (initG N.length [.obj (.ref p.1)]) bs.noc B H _ (sta_init hps (hgd _ _ _) ⟨tab, dens_nil, fun _ h => by cases h⟩ (hB.noc hO) hO.noc hI.noc hd) ?_
    rw [hm2 bs.noc]
    refine ⟨fun z => (nomatch z), fun _ _ z => (nomatch z), fun _ _ z => (nomatch z), fun _ _ z => (nomatch z), fun y b2 z v B' H' t' b' d' => ?_, fun _ _ z => (nomatch z)⟩
    cases z
    rw [den_str d']
    exact hq B' H' t'.noc (hI.unnoc t'.hh b')
  refine wpAny_mono (ht.pe.run [] s1 (L2.start N [V.ref p.1]) H _ I hw) (fun fl s' hs => ?_) fun e s' hs => hs
  have fin : ∀ {σ' : L2.St} {H' : Hp} {v : V} {u : Value}, Inv (L2H.cxH (L2N.CX P w) P w K mg base N x (defScope st) (He.ga K x) cdv A outer s H E p) [] σ' H' s' → L2.RelV v u → Q v H' → CE outer P w H s Q u s' :=
    fun {σ' H' v u} J rv q => ⟨v, H', J.os, J.bare, J.base, J.hok, rv, q⟩
  cases fl with
  | ret u =>
    obtain ⟨v, σ', H', J, rv, q⟩ := hs
    exact fin J rv q
  | next =>
    obtain ⟨σ', H', J, q⟩ := hs
    exact fin (v := V.non) (u := Value.none) J rfl q
  | brk =>
    obtain ⟨_, _, _, q⟩ := hs
    exact False.elim q
  | cont =>
    obtain ⟨_, _, _, q⟩ := hs
    exact False.elim q
end
end DL

set_option Elab.async false
set_option linter.all false
set_option maxRecDepth 100000
set_option maxHeartbeats 1000000
/-! More of expressions: f-strings, is, lists unpacked and turned, defs as values. -/
namespace DL
open PySem PySem.Spec PyProof.Rows L2
section
variable {g : Gx} {E : XK} {X : Cx} {K : PySem.W.Frag}
/-! ### f-strings -/
def D.fmt : D → Option D
  | .str y => if y.length ≤ 100000 then some (.str y) else none
  | .int i => if i.natAbs < 1000000 then some (.str (toString i)) else none
  | _ => none
theorem log2_small {i : Int} (h1 : i.natAbs < 1000000) : i.natAbs.log2 < 1920 := by
  have h2 : i.natAbs < 2 ^ 20 := by omega
  by_cases h0 : i.natAbs = 0
  · rw [h0]; decide
  · exact Nat.lt_of_lt_of_le ((Nat.log2_lt h0).mpr h2) (by decide)
theorem pd_fmt {e : Expr} {te : TE} {m : Ga → M D} {pos : Pos} (a : PD g E X e te m) : PD g E X (.FormattedValue e (-1) none pos) (tFmt te) (fun Γ => M.bnd (m Γ) fun x => opt (D.fmt x)) := by
  refine ⟨pe_fmt a.pe, fun ba B0 H0 σ Γ bs B H s Q hn h1 h2 => ?_⟩
  refine (a.de ba B0 H0 σ Γ bs B H s).bnd (f := fun x => opt (D.fmt x)) hn h2 fun x b1 e1 e1' n1 v B1 H1 t1 i1 d1 x1 => ?_
  obtain ⟨z, hz, ho⟩ := opt_some n1
  cases x with
  | str y =>
    obtain ⟨hy, rfl⟩ := of_ite (show (if y.length ≤ 100000 then some (D.str y) else none) = some z from hz)
    exact .inl ⟨y, den_str d1, sz5 hy, h1 _ b1 (e1'.trans ho) _ B1 H1 t1 i1 den_str'⟩
  | int i =>
    obtain ⟨hy, rfl⟩ := of_ite (show (if i.natAbs < 1000000 then some (D.str (toString i)) else none) = some z from hz)
    exact .inr ⟨i, den_int d1, log2_small hy, h1 _ b1 (e1'.trans ho) _ B1 H1 t1 i1 den_str'⟩
  | _ => exact nomatch (show none = some z from hz)
/-- texts one behind the other -/
def jsK (acc : Str) (k : Str → M D) : D → M D
  | .str y => if (acc ++ y).length ≤ 100000 then k (acc ++ y) else stuck
  | _ => stuck
def jsM : List (Ga → M D) → Str → Ga → M D
  | [], acc, _ => M.ret (.str acc)
  | m :: ms, acc, Γ => M.bnd (m Γ) (jsK acc fun a => jsM ms a Γ)
def RJ : Rd' D Str := fun _ _ _ x v => x = .str v
structure PJD (g : Gx) (E : XK) (X : Cx) (es : List Expr) (ts : List TE) (ms : List (Ga → M D)) : Prop where
  pe : PJ X es ts
  de : ∀ acc, DG g X.K E RJ (tJs ts acc) (jsM ms acc)
theorem pj_n : PJD g E X [] [] [] := ⟨.nil, fun acc ba B0 H0 σ Γ bs B H s Q hn h1 h2 => h1 (.str acc) bs rfl acc B H (Step.refl s.sub) s.bag rfl⟩
theorem pj_c {e : Expr} {es : List Expr} {t : TE} {ts : List TE} {m : Ga → M D} {ms : List (Ga → M D)} (a : PD g E X e t m) (r : PJD g E X es ts ms) : PJD g E X (e :: es) (t :: ts) (m :: ms) := by
  refine ⟨.cons a.pe r.pe, fun acc ba B0 H0 σ Γ bs B H s Q hn h1 h2 => ?_⟩
  refine (a.de ba B0 H0 σ Γ bs B H s).bnd (f := jsK acc fun a => jsM ms a Γ) hn h2 fun x b1 e1 e1' n1 v B1 H1 t1 i1 d1 x1 => ?_
  cases x with
  | str y =>
    have n1 : (if (acc ++ y).length ≤ 100000 then jsM ms (acc ++ y) Γ else stuck) b1 ≠ none := n1
    by_cases c : (acc ++ y).length ≤ 100000
    · have e2 : jsK acc (fun a => jsM ms a Γ) (.str y) = jsM ms (acc ++ y) Γ := if_pos c
      rw [if_pos c] at n1
      rw [e2] at x1 e1'
      refine ⟨y, den_str d1, sz5 c, ?_⟩
      exact r.de (acc ++ y) ba B0 H0 σ Γ b1 B1 H1 (s.step t1 i1) Q n1 (fun z b2 e3 w B2 H2 t2 i2 d2 => h1 z b2 (e1'.trans e3) w B2 H2 (t1.trans i1 t2) i2 d2) x1
    · rw [if_neg c] at n1
      exact absurd rfl n1
  | _ => exact absurd rfl n1
theorem pd_joined {v1 v2 : Expr} {rest : List Expr} {ts : List TE} {ms : List (Ga → M D)} {pos : Pos} (h : PJD g E X (v1 :: v2 :: rest) ts ms) : PD g E X (.JoinedStr (v1 :: v2 :: rest) pos) (fun σ H Q => tJs ts Str.empty σ H fun out H1 => Q (.str out) H1) (jsM ms Str.empty) := by
  refine ⟨pe_joined h.pe, fun ba B0 H0 σ Γ bs B H s Q hn h1 h2 => ?_⟩
  refine h.de Str.empty ba B0 H0 σ Γ bs B H s (fun out H1 => Q (.str out) H1) hn (fun x b1 e v B1 H1 t1 i1 d1 => ?_) h2
  have d1 : x = .str v := d1
  subst d1
  exact h1 _ b1 e _ B1 H1 t1 i1 den_str'
/-! ### is -/
theorem den_card {K : PySem.W.Frag} {ba : Mu} {H : Hp} {v : V} (h : Den K ba H .card v) : ∃ c, ba.card = some c ∧ v = .ref c.1 := by simpa only [Den] using h
theorem den_crd {K : PySem.W.Frag} {ba : Mu} {H : Hp} {ds : List D} {v : V} (h : Den K ba H (.crd ds) v) : ∃ a dx vs, v = .ref a ∧ H a = some (.ins (He.ga K "Card") dx (cFlds vs)) ∧ H dx = some (.own a) ∧ Dens K ba H ds vs := by simpa only [Den] using h
def nonD : D → Option Bool
  | .non => some true
  | .obj _ => none
  | _ => some false
theorem nonD_den {ba : Mu} {B H : Hp} {x : D} {v : V} {b : Bool} (h : nonD x = some b) (d : DenT K ba B H x v) (e : Ex ba B H) (f : BagOff ba B) : decide (v = V.non) = b := by
  cases x with
  | non => cases h; rw [d.non]; rfl
  | obj _ => cases h
  | bl _ => cases h; rw [d.bl]; rfl
  | int _ => cases h; rw [d.int]; rfl
  | str _ => cases h; rw [d.str]; rfl
  | tup _ => cases h; obtain ⟨a, vs, rfl, _⟩ := d.tup e f; rfl
  | lst _ => cases h; obtain ⟨a, vs, rfl, _⟩ := d.lst e f; rfl
  | bag => cases h; obtain ⟨a, _, rfl⟩ := den_bag (d.den (fun _ z => by cases z)); rfl
  | scr _ => cases h; obtain ⟨a, rfl, _⟩ := den_scr (d.den (fun _ z => by cases z)); rfl
  | fn _ => cases h; rw [den_fn (d.den (fun _ z => by cases z))]; rfl
  | card => cases h; obtain ⟨c, _, rfl⟩ := den_card (d.den (fun _ z => by cases z)); rfl
  | crd _ => cases h; obtain ⟨a, dx, vs, rfl, _⟩ := den_crd (d.den (fun _ z => by cases z)); rfl
def D.isN (x y : D) : Option D := match y with
  | .non => (nonD x).map D.bl
  | _ => none
def D.isNN (x y : D) : Option D := match y with
  | .non => (nonD x).map fun b => D.bl (!b)
  | _ => none
theorem od_isN : OpD g K (fun x y H Q => y = .non ∧ Q (.bl (decide (x = .non))) H) D.isN := by
  intro ba B H bs x y z vx vy hz e f bi dx dy Q q
  cases y with
  | non =>
    obtain ⟨b, h1, rfl⟩ := Option.map_eq_some_iff.mp (show (nonD x).map D.bl = some z from hz)
    exact ⟨dy.non, by rw [nonD_den h1 dx e f]; exact q _ B H (Step.refl e) bi den_bl'⟩
  | _ => cases hz
theorem od_isNN : OpD g K (fun x y H Q => y = .non ∧ Q (.bl (!decide (x = .non))) H) D.isNN := by
  intro ba B H bs x y z vx vy hz e f bi dx dy Q q
  cases y with
  | non =>
    obtain ⟨b, h1, rfl⟩ := Option.map_eq_some_iff.mp (show (nonD x).map (fun b => D.bl (!b)) = some z from hz)
    exact ⟨dy.non, by rw [nonD_den h1 dx e f]; exact q _ B H (Step.refl e) bi den_bl'⟩
  | _ => cases hz
def D.isB (x y : D) : Option D := match x, y with
  | .bl a, .bl b => some (.bl (decide (a = b)))
  | _, _ => none
def D.isNB (x y : D) : Option D := match x, y with
  | .bl a, .bl b => some (.bl (!decide (a = b)))
  | _, _ => none
theorem od_isB : OpD g K rIsB D.isB := by
  intro ba B H bs x y z vx vy hz e f bi dx dy Q q
  cases x <;> cases y <;> first | (exact nomatch (show none = some z from hz)) | skip
  case bl.bl i j =>
    cases (show some (D.bl (decide (i = j))) = some z from hz)
    exact ⟨i, j, dx.bl, dy.bl, q _ B H (Step.refl e) bi den_bl'⟩
theorem od_isNB : OpD g K rNotB D.isNB := by
  intro ba B H bs x y z vx vy hz e f bi dx dy Q q
  cases x <;> cases y <;> first | (exact nomatch (show none = some z from hz)) | skip
  case bl.bl i j =>
    cases (show some (D.bl (!decide (i = j))) = some z from hz)
    exact ⟨i, j, dx.bl, dy.bl, q _ B H (Step.refl e) bi den_bl'⟩
/-! ### lists and tuples unpacked -/
def gA (n : Nat) (ms : List D → Ga → Option Ga) : D → Ga → Option Ga
  | .tup ds, Γ => if ds.length = n then ms ds Γ else none
  | .lst ds, Γ => if ds.length = n then ms ds Γ else none
  | _, _ => none
def gAny (K : PySem.W.Frag) (n : Nat) (t : TGs) : TG := fun v σ H Q => gTup K n t v σ H Q ∨ gLst K n t v σ H Q
theorem pg_a {es : List Expr} {k : Nat} {t : TGs} {n : Nat} {ms : List D → Ga → Option Ga} {pos : Pos} (hc : X.calm = true) (h : PDGs g X es t ms) (hn : (assignEach es X.env).length = n := by rfl) (hst : (assignEach es X.env).findIdx? (·.1) = none := by rfl) :
    PDG g X (.Tuple es k pos) (gAny X.K n t) (gA n ms) := by
  refine ⟨⟨fun pins s σ H v u Q I r q => q.elim ((pg_tup (n := n) hc h.pe hn hst).run pins s σ H v u Q I r) ((pg_lst (n := n) hc h.pe hn hst).run pins s σ H v u Q I r)⟩, fun ba B0 H0 σ Γ bs B H x v Γ' Q s d e q => ?_⟩
  cases x with
  | tup ds =>
    obtain ⟨a, vs, rfl, ha, hd⟩ := den_tup d
    have e : (if ds.length = n then ms ds Γ else none) = some Γ' := e
    by_cases c : ds.length = n
    · rw [if_pos c] at e
      exact .inl ⟨a, vs, rfl, sqT_ex s.sub s.off ha, hd.length.trans c, h.de ba B0 H0 σ Γ bs B H ds vs Γ' Q s hd e q⟩
    · rw [if_neg c] at e
      cases e
  | lst ds =>
    obtain ⟨a, vs, rfl, ha, hd⟩ := den_lst d
    have e : (if ds.length = n then ms ds Γ else none) = some Γ' := e
    by_cases c : ds.length = n
    · rw [if_pos c] at e
      exact .inr ⟨a, vs, rfl, SqL.of (lst_ex s.sub s.off ha), hd.length.trans c, h.de ba B0 H0 σ Γ bs B H ds vs Γ' Q s hd e q⟩
    · rw [if_neg c] at e
      cases e
  | _ => cases e
/-! ### xs[::-1], a list -/
def D.rev : D → Option D
  | .lst ds => some (.lst ds.reverse)
  | _ => none
theorem dens_rev {ba : Mu} {B : Hp} : ∀ {ds : List D} {vs : List V}, Dens K ba B ds vs → Dens K ba B ds.reverse vs.reverse
  | [], _, h => by rw [dens_nil_inv h]; exact dens_nil
  | d :: ds, _, h => by
    obtain ⟨v, r, rfl, h1, h2⟩ := dens_cons_inv h
    rw [List.reverse_cons, List.reverse_cons]
    exact Dens.append (dens_rev h2) (dens_cons h1 dens_nil)
theorem pd_revL {e : Expr} {te : TE} {m : Ga → M D} {k : Nat} {p1 p2 p3 pos : Pos} (a : PB g E X e te m) : PD g E X (.Subscript e (.Slice none none (some (.UnaryOp .USub (.Constant (.int 1) k p1) p2)) p3) pos) (tRevL X.K te) (un1 D.rev m) := by
  refine ⟨pe_revL a.pe, fun ba B0 H0 σ Γ bs B H s Q hn h1 h2 => ?_⟩
  refine (a.de ba B0 H0 σ Γ bs B H s).bnd (f := fun x => opt (D.rev x)) hn h2 fun x b1 e1 e1' n1 v B1 H1 t1 i1 d1 x1 => ?_
  have s1 := s.step t1 i1
  obtain ⟨z, hz, ho⟩ := opt_some n1
  cases x with
  | lst ds =>
    cases (show some (D.lst ds.reverse) = some z from hz)
    obtain ⟨p, vs, rfl, hp, hd⟩ := DenT.lst s1.sub s1.off d1
    refine ⟨p, vs, rfl, SqL.of hp, fun q hq => ?_⟩
    have t2 : Step g ba B1 H1 (upd B1 q (.lst vs.reverse)) (upd H1 q (.lst vs.reverse)) := Step.new s1.sub hq
    exact h1 _ b1 (e1'.trans ho) _ _ _ (t1.trans i1 t2) (i1.new hq) (den_lst' upd_same (Dens.mono t2.bb s1.off _ _ (dens_rev hd)))
  | _ => exact nomatch (show none = some z from hz)
/-! ### a, b, c = x, y, z -/
def par3K (i j l : Nat) (Γ : Ga) : List D → M Fl
  | [x, y, z] => M.ret (.nx (((Γ.set i (.d x)).set j (.d y)).set l (.d z)))
  | _ => stuck
def par3M (i j l : Nat) (ms : Ga → M (List D)) : Ga → M Fl := fun Γ => M.bnd (ms Γ) (par3K i j l Γ)
theorem pds_p3 {i j l : Nat} {x y z : Str} {a b c : Expr} {ta : TA} {ms : Ga → M (List D)} {px py pz pt pos : Pos} {kt k2 pt2} (hc : X.calm = true) (hN : X.N.Nodup) (hi : X.N[i]? = some x) (hj : X.N[j]? = some y) (hl : X.N[l]? = some z) (hij : i ≠ j) (hil : i ≠ l) (hjl : j ≠ l)
    (hx : X.env.scope.names.lookup x = some .local) (hy : X.env.scope.names.lookup y = some .local) (hz : X.env.scope.names.lookup z = some .local) (ha : PDA g E X [a, b, c] ta ms)
    (hw : swappedStores [.Tuple [.Name x px, .Name y py, .Name z pz] kt pt] (.Tuple [a, b, c] k2 pt2) X.env = pure (some [x, y, z]))
    (hs : swapsWithSole [.Tuple [.Name x px, .Name y py, .Name z pz] kt pt] (.Tuple [a, b, c] k2 pt2) pos.line X.env = pure false := by rfl) :
    PDS g E X (.Assign [.Tuple [.Name x px, .Name y py, .Name z pz] kt pt] (.Tuple [a, b, c] k2 pt2) pos) (tPar3 i j l ta) (par3M i j l ms) := by
  refine ⟨ps_par3 hc hN hi hj hl hij hil hjl hx hy hz ha.pe hw hs, fun ba B0 H0 σ Γ bs B H Dn s w => ?_⟩
  refine (ha.de ba B0 H0 σ Γ bs B H s).stm (f := par3K i j l Γ) s w fun xs b1 vs B1 H1 s1 t1 d1 w1 => ?_
  obtain ⟨u1, u2, u3, rfl⟩ : ∃ u1 u2 u3, xs = [u1, u2, u3] := by
    have := w1.nn
    unfold par3K at this
    split at this
    · exact ⟨_, _, _, rfl⟩
    · exact absurd rfl this
  obtain ⟨v1, r1, rfl, g1, f1⟩ := dens_cons_inv d1
  obtain ⟨v2, r2, rfl, g2, f2⟩ := dens_cons_inv f1
  obtain ⟨v3, r3, rfl, g3, f3⟩ := dens_cons_inv f2
  rw [dens_nil_inv f3]
  exact ⟨v1, v2, v3, rfl, w1.nx _ b1 rfl _ B1 H1 (((s1.set g1).set g2).set g3) (Ex.refl _)⟩
/-! ### texts and tuples repeated -/
def D.repS : D → D → Option D
  | .str x, .int k => if x.length = 1 ∧ 1 < k ∧ k ≤ 1000 then some (.str ⟨(List.replicate k.toNat x.cps).foldl (· ++ ·) #[]⟩) else none
  | _, _ => none
def D.repT : D → D → Option D
  | .tup ds, .int k => if 1 ≤ ds.length ∧ 2 ≤ k ∧ k ≤ 1000 ∧ ds.length ≤ 1000 then some (.tup (List.replicate k.toNat ds).flatten) else none
  | _, _ => none
def D.repL : D → D → Option D
  | .lst ds, .int k => if 0 ≤ k ∧ k ≤ 1000 ∧ ds.length ≤ 1000 then some (.lst (List.replicate k.toNat ds).flatten) else none
  | _, _ => none
theorem dens_rep {ba : Mu} {B : Hp} {ds : List D} {vs : List V} (h : Dens K ba B ds vs) : ∀ m : Nat, Dens K ba B (List.replicate m ds).flatten (List.replicate m vs).flatten
  | 0 => dens_nil
  | m + 1 => by
    rw [List.replicate_succ, List.replicate_succ, List.flatten_cons, List.flatten_cons]
    exact Dens.append h (dens_rep h m)
def rRepS : R2 := fun x y H Q => ∃ (z : Str) (k : Int), x = .str z ∧ y = .int k ∧ z.length = 1 ∧ 1 < k ∧ k ≤ 1000 ∧ Q (.str ⟨(List.replicate k.toNat z.cps).foldl (· ++ ·) #[]⟩) H
theorem op_repS : OpR X (binaryOp .Mult) rRepS := by
  intro pins s σ H x y v u Q I rx ry h
  obtain ⟨z, k, rfl, rfl, h1, h2, h3, q⟩ := h
  obtain ⟨t, rfl⟩ := rx
  obtain ⟨t2, rfl⟩ := ry
  have n1 : ¬ k < 1 := by omega
  have c0 : (decide (k < -(2 ^ 63 : Int)) || decide (k ≥ 2 ^ 63)) = false := by
    rw [decide_eq_false (by omega), decide_eq_false (by omega)] <;> rfl
  have c1 : (k == 1 || z.length == 0) = false := by
    rw [h1]
    have : (k == 1) = false := beq_eq_false_iff_ne.mpr (by omega)
    rw [this]
    rfl
  refine PySem.P.mul_str c0 (fun _ _ => ?_) (fun _ _ => ?_) ?_
  · rw [h1]
    have : (1 : Int) ≤ (2 ^ 63 - 1) / k := by
      rw [Int.le_ediv_iff_mul_le (by omega)]
      omega
    show ¬ ((1 : Nat) : Int) > _
    omega
  · rw [h1]
    unfold PySem.Builtin.Str.tooLong
    rw [sizeLine_eq]
    exact decide_eq_false (by omega)
  · rw [if_neg n1, if_neg (by rw [c1]; exact Bool.false_ne_true)]
    have sz : ∀ (m : Nat) (acc : Array Nat), ((List.replicate m z.cps).foldl (· ++ ·) acc).size = acc.size + m * z.cps.size := by
      intro m
      induction m with
      | zero => intro acc; simp
      | succ m ih =>
        intro acc
        rw [List.replicate_succ, List.foldl_cons, ih, Array.size_append, Nat.succ_mul]
        omega
    have h1' : z.cps.size = 1 := h1
    refine ⟨?_, .str _, H, I.tok _, ⟨_, rfl⟩, q⟩
    show ((List.replicate k.toNat z.cps).foldl (· ++ ·) #[]).size ≤ sizeLine
    rw [sz, h1', sizeLine_eq]
    simp
    omega
theorem od_repS : OpD g K rRepS D.repS := by
  intro ba B H bs x y z vx vy hz e f bi dx dy Q q
  cases x <;> cases y <;> first | (exact nomatch (show none = some z from hz)) | skip
  case str.int w k =>
    obtain ⟨⟨h1, h2, h3⟩, rfl⟩ := of_ite (show (if w.length = 1 ∧ 1 < k ∧ k ≤ 1000 then some (D.str ⟨(List.replicate k.toNat w.cps).foldl (· ++ ·) #[]⟩) else none) = some z from hz)
    exact ⟨w, k, dx.str, dy.int, h1, h2, h3, q _ B H (Step.refl e) bi den_str'⟩
theorem od_repT : OpD g K (rRepT K) D.repT := by
  intro ba B H bs x y z vx vy hz e f bi dx dy Q q
  cases x <;> cases y <;> first | (exact nomatch (show none = some z from hz)) | skip
  case tup.int ds k =>
    obtain ⟨⟨h0, h1, h2, h3⟩, rfl⟩ := of_ite (show (if 1 ≤ ds.length ∧ 2 ≤ k ∧ k ≤ 1000 ∧ ds.length ≤ 1000 then some (D.tup (List.replicate k.toNat ds).flatten) else none) = some z from hz)
    obtain ⟨a, vs, rfl, ha, hd⟩ := den_tup (dx.den (fun _ z => by cases z))
    refine ⟨a, k, vs, rfl, dy.int, sqT_ex e f ha, fun z => ?_, h1, h2, by rw [hd.length]; exact h3, fun p hp => ?_⟩
    · have := hd.length
      rw [z] at this
      simp at this
      omega
    · have t : Step g ba B H (upd B p (.tup (List.replicate k.toNat vs).flatten)) (upd H p (.tup (List.replicate k.toNat vs).flatten)) := Step.new e hp
      exact q _ _ _ t (bi.new hp) (den_tup' (SqT.of upd_same) (Dens.mono t.bb f _ _ (dens_rep hd _)))
theorem od_repL : OpD g K rRep D.repL := by
  intro ba B H bs x y z vx vy hz e f bi dx dy Q q
  cases x <;> cases y <;> first | (exact nomatch (show none = some z from hz)) | skip
  case lst.int ds k =>
    obtain ⟨⟨h0, h1, h2⟩, rfl⟩ := of_ite (show (if 0 ≤ k ∧ k ≤ 1000 ∧ ds.length ≤ 1000 then some (D.lst (List.replicate k.toNat ds).flatten) else none) = some z from hz)
    obtain ⟨a, vs, rfl, ha, hd⟩ := dx.lst e f
    have a1 : vs.length * k.toNat ≤ 1000 * 1000 := Nat.mul_le_mul (by rw [hd.length]; exact h2) (by omega)
    refine ⟨a, k, vs, rfl, dy.int, ha, by omega, by omega, by rw [sizeLine_eq]; omega, fun p hp => ?_⟩
    have t : Step g ba B H (upd B p (.lst (List.replicate k.toNat vs).flatten)) (upd H p (.lst (List.replicate k.toNat vs).flatten)) := Step.new e hp
    exact q _ _ _ t (bi.new hp) (den_lst' upd_same (Dens.mono t.bb f _ _ (dens_rep hd _)))
/-! ### a new list of two -/
def catK : D → D → M (List D)
  | .lst a, .lst b => if a.length + b.length ≤ 100000 then M.ret (a ++ b) else stuck
  | _, _ => stuck
theorem pn_cat {ea eb : Expr} {ta tb : TE} {ma mb : Ga → M D} {pos : Pos} (a : PB g E X ea ta ma) (b : PB g E X eb tb mb) : PN g E X (.BinOp ea .Add eb pos) (tOp rCat ta tb) (fun Γ => M.bnd (ma Γ) fun x => M.bnd (mb Γ) fun y => catK x y) := by
  refine ⟨pe_op op_cat a.pe b.pe, fun ba B0 H0 σ Γ bs B H s Q hn h1 h2 => ?_⟩
  refine (a.de ba B0 H0 σ Γ bs B H s).bnd (f := fun x => M.bnd (mb Γ) fun y => catK x y) hn h2 fun x b1 e1 e1' n1 v B1 H1 t1 i1 d1 x1 => ?_
  have s1 := s.step t1 i1
  refine (b.de ba B0 H0 σ Γ b1 B1 H1 s1).bnd (f := fun y => catK x y) n1 x1 fun y b2 e2 e2' n2 u B2 H2 t2 i2 d2 x2 => ?_
  have s2 := s1.step t2 i2
  have d1' := mono_RB _ _ _ _ _ _ _ t2 s1.off d1
  cases x <;> cases y <;> first | (exact absurd rfl n2) | skip
  case lst.lst xs ys =>
    have n2 : (if xs.length + ys.length ≤ 100000 then M.ret (xs ++ ys) else stuck) b2 ≠ none := n2
    by_cases c : xs.length + ys.length ≤ 100000
    · obtain ⟨p, vs, rfl, hp, hd⟩ := DenT.lst s2.sub s2.off d1'
      obtain ⟨p2, ws, rfl, hp2, hd2⟩ := DenT.lst s2.sub s2.off d2
      refine ⟨p, p2, vs, ws, rfl, rfl, hp, hp2, by rw [hd.length, hd2.length]; exact sz5 c, fun q hq => ?_⟩
      have t3 : Step g ba B2 H2 B2 (upd H2 q (.lst (vs ++ ws))) := Step.newH s2.sub hq
      refine h1 (xs ++ ys) b2 (e1'.trans (e2'.trans (show catK (.lst xs) (.lst ys) b2 = _ by show (if xs.length + ys.length ≤ 100000 then M.ret (xs ++ ys) else stuck) b2 = _; rw [if_pos c]; rfl))) _ B2 _ ((t1.trans i1 t2).trans i2 t3) (i2.new hq) ⟨⟨q, vs ++ ws, rfl, i2.nb hq, s2.sub.dom q hq, upd_same, Dens.append hd hd2⟩, fun a ha => ?_⟩
      cases ha
      exact t1.hh.dom q (t2.hh.dom q hq)
    · rw [if_neg c] at n2
      exact absurd rfl n2
/-! ### bool(x) -/
def D.toBool : List D → Option D
  | [.bl b] => some (.bl b)
  | [.int i] => some (.bl (i != 0))
  | _ => none
theorem cd_bool : CallD g K (fun xs H Q => (∃ i, xs = [.int i] ∧ Q (.bl (i != 0)) H) ∨ ∃ k, xs = [.bl k] ∧ Q (.bl k) H) D.toBool := by
  intro ba B H bs xs z vs hz e f bi dx Q q
  unfold D.toBool at hz
  split at hz
  · rename_i b
    cases hz
    obtain ⟨v, rfl, d⟩ := denTs_one dx
    rw [d.bl]
    exact .inr ⟨b, rfl, q _ B H (Step.refl e) bi den_bl'⟩
  · rename_i i
    cases hz
    obtain ⟨v, rfl, d⟩ := denTs_one dx
    rw [d.int]
    exact .inl ⟨i, rfl, q _ B H (Step.refl e) bi den_bl'⟩
  · cases hz
end
end DL

set_option Elab.async false
set_option linter.all false
set_option maxRecDepth 100000
set_option maxHeartbeats 1000000
/-! Defs as values; the defs that catch, by their texts; what the making of lambdas asks. -/
namespace DL
open PySem PySem.Spec PyProof.Rows L2
section
variable {g : Gx} {E : XK} {P : Program} {w : World} {K : PySem.W.Frag} {mg : Str → Option Value} {base : Heap} {X : Cx}
/-! ### defs as values -/
theorem pd_dv {x : Str} {pos : Pos} (hm : X.mg x = some (.ref (He.ga X.K x))) (hg : Gl X x := by rfl) (hd : (x == ("__debug__" : Str)) = false := by decide) :
    PD g E X (.Name x pos) (tC (.ref (He.ga X.K x))) (fun _ => M.ret (.fn x)) := pd_k (pe_glob hg hm rfl hd) fun _ _ => den_fn'
abbrev FTab := List (Str × Nat × (List D → M D))
def TblOk (g : Gx) (P : Program) (w : World) (K : PySem.W.Frag) (mg : Str → Option Value) (base : Heap) (k : Nat) (tbl : FTab) : Prop :=
  ∀ x n f, tbl.lookup x = some (n, f) → ∃ k0 ps, k0 ≤ k ∧ ps.length = n ∧ OkF g P w K mg base k0 x ps f
theorem tbl_n {k : Nat} : TblOk g P w K mg base k [] := fun _ _ _ h => nomatch h
theorem tbl_c {k k0 : Nat} {tbl : FTab} {x : Str} {ps : List Str} {f : List D → M D} (F : OkF g P w K mg base k0 x ps f) (hk : k0 ≤ k) (r : TblOk g P w K mg base k tbl) : TblOk g P w K mg base k ((x, ps.length, f) :: tbl) := fun y n f' h => by
  have h : (match y == x with | true => some (ps.length, f) | false => tbl.lookup y) = some (n, f') := h
  cases q : y == x with
  | true =>
    rw [q] at h
    cases h
    rw [beq_iff_eq.mp q]
    exact ⟨k0, ps, hk, rfl, F⟩
  | false =>
    rw [q] at h
    exact r y n f' h
def cvK (tbl : FTab) (ms : M (List D)) : D → M D
  | .fn x => (match tbl.lookup x with
    | some (n, f) => M.bnd ms (callK n f)
    | none => stuck)
  | _ => stuck
theorem cvK_no {tbl : FTab} {ms : M (List D)} {x : Str} (h : tbl.lookup x = none) : cvK tbl ms (.fn x) = stuck := by
  show (match tbl.lookup x with | some (n, f) => M.bnd ms (callK n f) | none => stuck) = _
  rw [h]
theorem cvK_at {tbl : FTab} {ms : M (List D)} {x : Str} {n : Nat} {f : List D → M D} (h : tbl.lookup x = some (n, f)) : cvK tbl ms (.fn x) = M.bnd ms (callK n f) := by
  show (match tbl.lookup x with | some (n, f) => M.bnd ms (callK n f) | none => stuck) = _
  rw [h]
def callV (i : Nat) (tbl : FTab) (ms : Ga → M (List D)) : Ga → M D := fun Γ => M.bnd (rdv Γ i) (cvK tbl (ms Γ))
def tCallV (g : Gx) (K : PySem.W.Frag) (i : Nat) (tbl : FTab) (E : XK) (t : TA) : TE := fun σ H Q => ∃ x n f, tbl.lookup x = some (n, f) ∧ tCallL i (He.ga K x) (spD g K n f) [] E t σ H Q
theorem pe_callV {i k : Nat} {tbl : FTab} {a : Str} {p pos : Pos} {e : Expr} {es : List Expr} {t : TA} (A : TblOk g X.prog X.w X.K X.mg X.base k tbl) (hr : Room k X.A) (hN : X.N[i]? = some a) (hv : Vis X.env.scope a) (hx : Passes (L2N.CX X.prog X.w) X E) (ha : PA X (e :: es) t)
    (hdb : (a == ("__debug__" : Str)) = false) (hcd : (a == ("__classdict__" : Str)) = false) (he : starEach (e :: es) X.env = (false, eval e X.env) :: starEach es X.env) (hpl : (backTo pos (starEach es X.env)).any (·.1) = false) :
    PE X (.Call (.Name a p) (e :: es) [] pos) (tCallV g X.K i tbl E t) := by
  refine ⟨fun pins s σ H Q I ⟨x, n, f, hl, h⟩ => ?_⟩
  obtain ⟨k0, ps, hk, rfl, fd, F, hb, hm, kp, _⟩ := A x n f hl
  exact (L2.pe_callL (i := i) F (hr.mono hk) hN hv kp hb .nil hx ha hdb hcd he hpl).run pins s σ H Q I h
theorem rdv_inv {Γ : Ga} {i : Nat} {bs : MS} (h : rdv Γ i bs ≠ none) : ∃ x, Γ[i]? = some (.d x) ∧ rdv Γ i = M.ret x := by
  unfold rdv at h ⊢
  split at h
  · rename_i x q
    exact ⟨x, q, rfl⟩
  · exact absurd rfl h
/-- a(..), a a name that holds one of several defs -/
theorem pd_callV {i k : Nat} {tbl : FTab} {a : Str} {p pos : Pos} {e : Expr} {es : List Expr} {t : TA} {ms : Ga → M (List D)} (A : TblOk g X.prog X.w X.K X.mg X.base k tbl) (hr : Room k X.A) (hx : Passes (L2N.CX X.prog X.w) X E) (ha : PDA g E X (e :: es) t ms)
    (hN : X.N[i]? = some a := by rfl) (hv : Vis X.env.scope a := by first | exact Or.inl rfl | exact Or.inr (Or.inl rfl) | exact Or.inr (Or.inr rfl))
    (hdb : (a == ("__debug__" : Str)) = false := by decide) (hcd : (a == ("__classdict__" : Str)) = false := by decide) (he : starEach (e :: es) X.env = (false, eval e X.env) :: starEach es X.env := by rfl) (hpl : (backTo pos (starEach es X.env)).any (·.1) = false := by rfl) :
    PD g E X (.Call (.Name a p) (e :: es) [] pos) (tCallV g X.K i tbl E t) (callV i tbl ms) := by
  refine ⟨pe_callV A hr hN hv hx ha.pe hdb hcd he hpl, fun ba B0 H0 σ Γ bs B H s Q hn h1 h2 => ?_⟩
  obtain ⟨x, q, e1⟩ := rdv_inv (Γ := Γ) (i := i) (bs := bs) (fun z => hn (bnd_none z))
  have e2 : callV i tbl ms Γ = cvK tbl (ms Γ) x := by unfold callV; rw [e1]; rfl
  rw [e2] at hn h1 h2
  cases x with
  | fn y =>
    obtain ⟨v, e3, d⟩ := s.slot i _ q
    rw [den_fn d] at e3
    cases hl : tbl.lookup y with
    | none => exact absurd (show cvK tbl (ms Γ) (.fn y) bs = none by rw [cvK_no hl]; rfl) hn
    | some nf =>
      obtain ⟨n, f⟩ := nf
      have e4 : cvK tbl (ms Γ) (.fn y) = M.bnd (ms Γ) (callK n f) := cvK_at hl
      rw [e4] at hn h1 h2
      refine ⟨y, n, f, hl, join_some e3, ?_⟩
      exact dg_fn ha.de ba B0 H0 σ Γ bs B H s Q hn h1 h2
  | _ => exact absurd rfl hn
/-! ### a def whose code object is known -/
theorem okFc {x : Str} {st : Stmt} {N ps : List Str} {k : Nat} {m : Ga → M Fl} (F : DefF K mg x st) (S : FnScope N ps (defScope st)) (hps : ps.length ≤ N.length)
    (hb : ∀ (kV doc pm : Value) (an : Option Addr) (cdv ct : Value) (us : List Value), us.length = ps.length → bindArgs (PySem.W.fnOf x x (defArgs st) (defBody st) (defScope st) .none kV doc pm an cdv ct) ⟨us, []⟩ = pure (ps.zip us))
    (hbody : ∀ (f : Addr) (A : Around) (outer : List Env) (s : Shared) (H : Hp) (E : XK), Room k (A.deeper (envOfC x (defScope st) s.heap.objs.size f (.ref (He.codeOf K (x, none))))) → ∃ t, PDSs g E (cxOf (L2N.CX P w) P w K mg base N x (defScope st) f (.ref (He.codeOf K (x, none))) A outer s H E) (defBody st) t m)
    (hgd : ∀ ba B H, g.good ba B H := by exact fun _ _ _ => True.intro) :
    OkF g P w K mg base (k + 1) x ps (runD N.length m) := by
  obtain ⟨fd, F, hm⟩ := F
  obtain ⟨oc, od, dV, kV, doc, pm, an, cdv, ct, osl, e, lk, hcd, hdv, hkv⟩ := F.ex
  have hdn : dV = .none := by
    rcases hdv with ⟨_, h⟩ | ⟨h, _⟩
    · exact h
    · exact absurd rfl h
  subst hdn
  obtain ⟨c, rfl⟩ := He.codeIn_ref hcd
  have ec : He.codeOf K (x, none) = c := He.codeOf_eq (p := (x, none)) (fd := fd) lk (by rw [e])
  have F' : Fun K x x st (He.ga K x) fd := ⟨⟨oc, od, kV, doc, pm, an, .ref c, ct, osl, e, lk, hcd⟩, F.kp⟩
  refine ⟨fd, ?_, F'.binds hb, hm, F.kp, ⟨oc, od, osl, lk⟩, fun s us hl => .of_eq (by rw [e]; exact hb kV doc pm an _ ct us hl)⟩
  have lk' := lk
  rw [e] at lk'
  subst e
  refine fn_of lk hcd S (fun vs H Q E h => ?_) fun A outer s H vs Q E hr h => ?_
  · obtain ⟨ba, B, ds, bs, hl, _, _, _, _, hd, _⟩ := h
    rw [hd.length, hl]
  · obtain ⟨t, ht⟩ := hbody _ A outer s H E (by rw [ec]; exact hr)
    rw [ec] at ht
    obtain ⟨ba, B, ds, bs, hl, e, f, bi, tab, hd, hn, hok, hx⟩ := h
    refine ⟨t, ht.pe, ht.de ba B H (start N vs) (initG N.length ds) bs B H _ (sta_init (by omega) (hgd _ _ _) tab e f bi hd) ?_⟩
    cases q : m (initG N.length ds) bs with
    | none => exact absurd (show runD N.length m ds bs = none from bnd_none q) hn
    | some r =>
      obtain ⟨r, b1⟩ := r
      cases r with
      | ex c => exact ⟨fun z => (nomatch z), fun _ _ z => (nomatch z), fun _ _ z => (nomatch z), fun _ _ z => (nomatch z), fun _ _ z => (nomatch z), fun c' bs' z B' H' t' b' => by cases z; exact hx c b1 (bnd_ex q) B' H' t' b'⟩
      | ok fl =>
        have e1 : runD N.length m ds bs = outK fl b1 := bnd_ok q
        cases fl with
        | nx Γ' => exact ⟨fun z => (nomatch z), fun Γ2 bs' z σ' B' H' s' _ => by cases z; exact hok .non b1 e1 .non B' H' s'.ent s'.bag den_non', fun _ _ z => (nomatch z), fun _ _ z => (nomatch z), fun _ _ z => (nomatch z), fun _ _ z => (nomatch z)⟩
        | rt d => exact ⟨fun z => (nomatch z), fun _ _ z => (nomatch z), fun _ _ z => (nomatch z), fun _ _ z => (nomatch z), fun x bs' z v B' H' t' b' d' => by cases z; exact hok d b1 e1 v B' H' t' b' d', fun _ _ z => (nomatch z)⟩
        | bk Γ' => exact absurd (show runD N.length m ds bs = none from e1) hn
        | ct Γ' => exact absurd (show runD N.length m ds bs = none from e1) hn
/-! ### tables of code objects -/
def TBs (K : PySem.W.Frag) (mg : Str → Option Value) (base : Heap) (tf : List He.Defn) : Prop := ∀ p ∈ tf, LamX.TabB base mg (He.cT K p).1 (He.cT K p).2
def tabsOf (K : PySem.W.Frag) (nm : Nat → Nat → Str) (tf : List He.Defn) : TQ := ⟨nm, tf.map fun p => (He.cT K p).2⟩
theorem nodup_inj {α β : Type} {f : α → β} : ∀ {l : List α} {a b : α}, (l.map f).Nodup → a ∈ l → b ∈ l → f a = f b → a = b
  | [], a, b, _, h, _, _ => by simp at h
  | x :: l, a, b, nd, ha, hb, e => by
    rw [List.map_cons, List.nodup_cons] at nd
    rcases List.mem_cons.mp ha with ea | ha'
    · rcases List.mem_cons.mp hb with eb | hb'
      · rw [ea, eb]
      · exact absurd (by rw [← ea, e]; exact List.mem_map_of_mem hb') nd.1
    · rcases List.mem_cons.mp hb with eb | hb'
      · exact absurd (by rw [← eb, ← e]; exact List.mem_map_of_mem ha') nd.1
      · exact nodup_inj nd.2 ha' hb' e
theorem lamF_by {tf : List He.Defn} {nm : Nat → Nat → Str} {x : Str} {scope : Scope} {params : Arguments} {body : Expr} {lpos : Pos} (hT : g.T = tabsOf X.K nm tf) (tb : TBs X.K X.mg X.base tf) (hx : (x, none) ∈ tf)
    (hc : X.env.code = .ref (He.codeOf X.K (x, none)) := by rfl) (hq : nm lpos.line lpos.col = X.env.qual ++ "<lambda>" := by rfl) (hL : LamX.lamSB X.env.scope scope = true := by decide +kernel) (df : defaultsOf params X.env = ([], []) := by rfl)
    (bd : ∀ (q : Str) (cl : List (Str × Addr)) (pm cv ctv : Value), bindArgs (PySem.W.kla_fn "<lambda>" q params body scope cl pm cv ctv) ⟨[], []⟩ = pure [] := by intros; rfl) : LamF g X scope params body lpos := by
  refine ⟨⟨(He.cT X.K (x, none)).1, (He.cT X.K (x, none)).2, tb _ hx, hc, ?_, by rw [hT]; exact hq⟩, LamX.lamS_by hL, df, bd⟩
  rw [hT]
  exact List.mem_map.mpr ⟨_, hx, rfl⟩
/-! ### the classes of the errors -/
def Lb (c : Str) : Option Str := errL.lookup c
theorem Lb_mem {c l : Str} (h : Lb c = some l) : (c, l) ∈ errL := PySem.mem_of_lookup h
structure ExcT (K : PySem.W.Frag) : Prop where
  ok : exB K = true
theorem ExcT.exc (T : ExcT K) {c l : Str} (h : Lb c = some l) : excB K c = true := by
  have := List.all_eq_true.mp T.ok _ (Lb_mem h)
  exact (He.ba this).1
theorem ExcT.kit (T : ExcT K) {c l : Str} (h : Lb c = some l) {d l2 : Str} (h2 : (d, l2) ∈ errL) : PySem.W.kitOne K (.ref (He.ga K c)) (.ref (He.ga K d)) = some (decide (c = d)) := by
  have h1 := (He.ba (List.all_eq_true.mp T.ok _ (Lb_mem h))).2
  exact of_decide_eq_true (List.all_eq_true.mp h1 _ h2)
theorem ExcT.excC (T : ExcT K) {c l : Str} (h : Lb c = some l) : ExcC K (He.ga K c) := by
  obtain ⟨a1, z⟩ := He.ba (T.exc h)
  obtain ⟨a2, z⟩ := He.ba z
  obtain ⟨a3, z⟩ := He.ba z
  obtain ⟨a4, z⟩ := He.ba z
  obtain ⟨a5, z⟩ := He.ba z
  obtain ⟨a6, z⟩ := He.ba z
  obtain ⟨a7, z⟩ := He.ba z
  obtain ⟨a8, z⟩ := He.ba z
  exact ⟨He.eqO_ok a1, He.eqO_ok a2, of_decide_eq_true a3, a4, He.eqO_ok a5, He.eqO_ok a6, of_decide_eq_true a7, of_decide_eq_true a8⟩
theorem ExcT.facts (T : ExcT K) (hca : g.ca = He.ga K) : ExFacts g Lb K (He.ga K "StrokeError") := by
  have key : ∀ c l, Lb c = some l → PySem.W.exmOne K (.ref (He.ga K c)) (.ref (He.ga K "StrokeError")) = some true ∧ PySem.W.kitOne K (.ref (He.ga K c)) (.type "ValueError") = some true := fun c l h => by
    obtain ⟨a1, z⟩ := He.ba (T.exc h)
    obtain ⟨a2, z⟩ := He.ba z
    obtain ⟨a3, z⟩ := He.ba z
    obtain ⟨a4, z⟩ := He.ba z
    obtain ⟨a5, z⟩ := He.ba z
    obtain ⟨a6, z⟩ := He.ba z
    obtain ⟨a7, z⟩ := He.ba z
    obtain ⟨a8, z⟩ := He.ba z
    obtain ⟨a9, a10⟩ := He.ba z
    exact ⟨of_decide_eq_true a9, of_decide_eq_true a10⟩
  exact ⟨fun c l h => by rw [hca]; exact (key c l h).1, fun c l h => by rw [hca]; exact T.excC h, fun c l h => by rw [hca]; exact (key c l h).2⟩
theorem addLL (a b : List D) : D.add (.lst a) (.lst b) = if a.length + b.length ≤ 100000 then some (.lst (a ++ b)) else none := rfl
/-! ### the defs that catch, by their texts -/
theorem okErr {x a n nm odd p0 : Str} {st : Stmt} {k : Nat} {j j2 : Nat} {p1 p2 p3 p4 p5 p6 p7 p8 p9 q1 q2 q3 q4 q5 q6 q7 q8 q9 : Pos} (F : DefF K mg x st) (S : FnScope [a, n] [a] (defScope st)) (hT : ExcT K) (hca : g.ca = He.ga K) (NO : OkH g Lb P w K mg base k nm p0)
    (hbody : defBody st = [.Try [.Expr (.Call (.Name a p1) [] [] p2) p3] [.ExceptHandler (some (.Name "StrokeError" p4)) (some n) [.Return (some (.IfExp (.Call (.Name "isinstance" p5) [.Name n p6, .Name "ValueError" p7] [] p8) (.Call (.Name nm q1) [.Name n q2] [] q3) (.Constant (.str odd) j q4) q5)) q6] q7] [] [] q8, .Return (some (.Constant (.str "") j2 q9)) p9])
    (hb : ∀ (kV doc pm : Value) (an : Option Addr) (cdv ct : Value) (us : List Value), us.length = [a].length → bindArgs (PySem.W.fnOf x x (defArgs st) (defBody st) (defScope st) .none kV doc pm an cdv ct) ⟨us, []⟩ = pure ([a].zip us))
    (hme : mg "StrokeError" = some (.ref (He.ga K "StrokeError"))) (hmi : mg "isinstance" = none) (hmv : mg "ValueError" = none)
    (hva : Vis (defScope st) a := by exact Or.inl rfl) (hln : (defScope st).names.lookup n = some .local := by rfl) (hge : (defScope st).names.lookup ("StrokeError" : Str) = some .globalImplicit := by rfl) (hgi : (defScope st).names.lookup ("isinstance" : Str) = some .globalImplicit := by rfl)
    (hgv : (defScope st).names.lookup ("ValueError" : Str) = some .globalImplicit := by rfl) (hgn : (defScope st).names.lookup nm = some .globalImplicit := by rfl)
    (hd : (a == ("__debug__" : Str)) = false := by decide) (hcd : (a == ("__classdict__" : Str)) = false := by decide) (hdn : (n == ("__debug__" : Str)) = false := by decide) (hcn : (n == ("__classdict__" : Str)) = false := by decide) (hdm : (nm == ("__debug__" : Str)) = false := by decide) :
    OkE P w K mg base k x (ttErr g Lb) := by
  obtain ⟨fd, F, hm⟩ := F
  obtain ⟨oc, od, dV, kV, doc, pm, an, cdv, ct, osl, e, lk, hcd2, hdv, hkv⟩ := F.ex
  have hdn2 : dV = .none := by
    rcases hdv with ⟨_, h⟩ | ⟨h, _⟩
    · exact h
    · exact absurd rfl h
  subst hdn2
  have F' : Fun K x x st (He.ga K x) fd := ⟨⟨oc, od, kV, doc, pm, an, cdv, ct, osl, e, lk, hcd2⟩, F.kp⟩
  have B := F'.binds hb
  obtain ⟨nfd, NF, nb, nmg, nkp⟩ := NO
  subst e
  refine ⟨He.ga K x, a, [a, n], defArgs st, defBody st, defScope st, .none, kV, doc, pm, cdv, ct, oc, an, od, osl, hm, F.kp, lk, hcd2, B, S, rfl, hva, hd, hcd, fun X q h1 h2 h3 h4 h5 => ?_⟩
  subst h1 h2 h3 h4 h5
  rw [hbody]
  exact err_gives (hT.facts hca) NF S.nd rfl hln hge hme hgi hmi hgv hmv hgn nmg nkp nb hdn hcn hdm (fun _ => rfl)
theorem okTold {x a n nm p0 : Str} {st : Stmt} {k : Nat} {j jn k1 k2 : Nat} {p1 p2 p3 p4 p5 p6 p9 q1 q2 q3 q5 q6 q7 q8 : Pos} (F : DefF K mg x st) (S : FnScope [a, n] [a] (defScope st)) (hT : ExcT K) (hca : g.ca = He.ga K) (NO : OkH g Lb P w K mg base k nm p0)
    (hbody : defBody st = [.Try [.Return (some (.Tuple [.Call (.Name a p1) [] [] p2, .Constant (.str "") j p3] k1 p5)) p9] [.ExceptHandler (some (.Name "StrokeError" p4)) (some n) [.Return (some (.Tuple [.Constant .none jn p6, .Call (.Name nm q1) [.Name n q2] [] q3] k2 q5)) q6] q7] [] [] q8])
    (hb : ∀ (kV doc pm : Value) (an : Option Addr) (cdv ct : Value) (us : List Value), us.length = [a].length → bindArgs (PySem.W.fnOf x x (defArgs st) (defBody st) (defScope st) .none kV doc pm an cdv ct) ⟨us, []⟩ = pure ([a].zip us))
    (hme : mg "StrokeError" = some (.ref (He.ga K "StrokeError")))
    (hva : Vis (defScope st) a := by exact Or.inl rfl) (hln : (defScope st).names.lookup n = some .local := by rfl) (hge : (defScope st).names.lookup ("StrokeError" : Str) = some .globalImplicit := by rfl) (hgn : (defScope st).names.lookup nm = some .globalImplicit := by rfl)
    (hd : (a == ("__debug__" : Str)) = false := by decide) (hcd : (a == ("__classdict__" : Str)) = false := by decide) (hdn : (n == ("__debug__" : Str)) = false := by decide) (hcn : (n == ("__classdict__" : Str)) = false := by decide) (hdm : (nm == ("__debug__" : Str)) = false := by decide) :
    OkE P w K mg base k x (ttTold g Lb) := by
  obtain ⟨fd, F, hm⟩ := F
  obtain ⟨oc, od, dV, kV, doc, pm, an, cdv, ct, osl, e, lk, hcd2, hdv, hkv⟩ := F.ex
  have hdn2 : dV = .none := by
    rcases hdv with ⟨_, h⟩ | ⟨h, _⟩
    · exact h
    · exact absurd rfl h
  subst hdn2
  have F' : Fun K x x st (He.ga K x) fd := ⟨⟨oc, od, kV, doc, pm, an, cdv, ct, osl, e, lk, hcd2⟩, F.kp⟩
  have B := F'.binds hb
  obtain ⟨nfd, NF, nb, nmg, nkp⟩ := NO
  subst e
  refine ⟨He.ga K x, a, [a, n], defArgs st, defBody st, defScope st, .none, kV, doc, pm, cdv, ct, oc, an, od, osl, hm, F.kp, lk, hcd2, B, S, rfl, hva, hd, hcd, fun X q h1 h2 h3 h4 h5 => ?_⟩
  subst h1 h2 h3 h4 h5
  rw [hbody]
  exact told_gives (hT.facts hca) NF S.nd rfl hln hge hme hgn nmg nkp nb hdn hcn hdm (fun _ => rfl)
end
end DL
namespace DL
open PySem PySem.Spec PyProof.Rows L2
section
variable {g : Gx} {Lb : Str → Option Str} {X : Cx} {E : XK} {m : Ga → M D} {x : Str} {k k' : Nat} {params : Arguments} {body : Expr} {scope : Scope} {p lpos pos : Pos} {te : TE}
theorem pd_lErr (O : OkE X.prog X.w X.K X.mg X.base k' x (ttErr g Lb)) (F : LamF g X scope params body lpos) (hr : Room (k + 2) X.A) (hk' : k' ≤ k + 1)
    (hbody : ∀ (A : Around) (outer : List Env) (s : Shared) (H : Hp) (E : XK) (f c' : Addr), Still g.T X scope lpos outer H c' → Room k (A.deeper (LamX.lamEnv X scope s.heap.objs.size f c')) → ∃ t, PD g E (lamX X A outer s H E scope f c') body t m)
    (hg : Gl X x := by rfl) (hdb : (x == ("__debug__" : Str)) = false := by decide) (e : te = Classical.choose (pd_lamErr (E := E) (p := p) (pos := pos) O F hr hk' hbody hg hdb) := by rfl) : PD g E X (.Call (.Name x p) [.Lambda params body scope lpos] [] pos) te (errM Lb m) := by
  subst e
  exact Classical.choose_spec (pd_lamErr (E := E) (p := p) (pos := pos) O F hr hk' hbody hg hdb)
theorem pd_lTold (O : OkE X.prog X.w X.K X.mg X.base k' x (ttTold g Lb)) (F : LamF g X scope params body lpos) (hr : Room (k + 2) X.A) (hk' : k' ≤ k + 1)
    (hbody : ∀ (A : Around) (outer : List Env) (s : Shared) (H : Hp) (E : XK) (f c' : Addr), Still g.T X scope lpos outer H c' → Room k (A.deeper (LamX.lamEnv X scope s.heap.objs.size f c')) → ∃ t, PD g E (lamX X A outer s H E scope f c') body t m)
    (hg : Gl X x := by rfl) (hdb : (x == ("__debug__" : Str)) = false := by decide) (e : te = Classical.choose (pd_lamTold (E := E) (p := p) (pos := pos) O F hr hk' hbody hg hdb) := by rfl) : PD g E X (.Call (.Name x p) [.Lambda params body scope lpos] [] pos) te (toldM Lb m) := by
  subst e
  exact Classical.choose_spec (pd_lamTold (E := E) (p := p) (pos := pos) O F hr hk' hbody hg hdb)
end
end DL

set_option Elab.async false
set_option linter.all false
set_option maxRecDepth 100000
set_option maxHeartbeats 1000000
/-! The naming def's mirror. -/
namespace DL
open PySem PySem.Spec PyProof.Rows L2
def namedM (I : Str → Ga → M D) : Ga → M Fl := (seqM (asgM (fun Γ => M.bnd ((fun Γ => consM (I "InvalidRule" Γ) ((fun Γ => consM (I "InvalidStart" Γ) ((fun Γ => consM (I "InvalidPrizes" Γ) ((fun _ => M.ret []) Γ)) Γ)) Γ)) Γ) lstK) (gN 1))
  (seqM (asgM (bin D.add (fun Γ => rdv Γ 1) (fun Γ => M.bnd ((fun Γ => consM (I "InvalidSkill" Γ) ((fun Γ => consM (I "InvalidRow" Γ) ((fun Γ => consM (I "InvalidNumber" Γ) ((fun _ => M.ret []) Γ)) Γ)) Γ)) Γ) lstK)) (gN 1))
  (seqM (asgM (bin D.add (fun Γ => rdv Γ 1) (fun Γ => M.bnd ((fun Γ => consM (I "InvalidWords" Γ) ((fun Γ => consM (I "InvalidIndex" Γ) ((fun Γ => consM (I "InvalidScore" Γ) ((fun _ => M.ret []) Γ)) Γ)) Γ)) Γ) lstK)) (gN 1))
  (seqM (asgM (bin D.add (fun Γ => rdv Γ 1) (fun Γ => M.bnd ((fun Γ => consM (I "InvalidSeen" Γ) ((fun Γ => consM (I "InvalidCards" Γ) ((fun Γ => consM (I "InvalidText" Γ) ((fun _ => M.ret []) Γ)) Γ)) Γ)) Γ) lstK)) (gN 1))
  (seqM (asgM (bin D.add (fun Γ => rdv Γ 1) (fun Γ => M.bnd ((fun Γ => consM (I "TooMany" Γ) ((fun Γ => consM (I "Unlike" Γ) ((fun Γ => consM (I "NothingToUndo" Γ) ((fun _ => M.ret []) Γ)) Γ)) Γ)) Γ) lstK)) (gN 1))
  (seqM (asgM (fun _ => M.ret (D.str "rule start prizes skill row number words index score seen cards text many unlike undo")) (gN 2))
  (retM (mth D.join (fun _ => M.ret (D.str " ")) (lstOf (compM [3, 4] (fun Γ => M.bnd (consM (mth D.split (fun Γ => rdv Γ 2) (fun _ => M.ret (D.str " ")) Γ) (consM (rdv Γ 1) (M.ret []))) zipLK) (gT 2 (gsCons (gN 3) (gsCons (gN 4) gsNil))) (fun Γ => M.bnd (rdv Γ 4) asB) (fun Γ => rdv Γ 3)))))))))))

theorem split_labels : Txt.split ("rule start prizes skill row number words index score seen cards text many unlike undo" : Str) " " = errL.map (·.2) := by kernel_rfl
theorem splitS {a b : Str} (h : (b.length == 0) = false ∧ a.length ≤ 100000) : D.split (.str a) (.str b) = some (.lst ((Txt.split a b).map D.str)) := if_pos h
theorem split_labelsD : D.split (.str ("rule start prizes skill row number words index score seen cards text many unlike undo" : Str)) (.str " ") = some (.lst (errL.map fun p => D.str p.2)) := by
  rw [splitS (by decide +kernel), split_labels, List.map_map]
  rfl
theorem mth_ap (f : D → D → Option D) (ma mb : Ga → M D) (Γ : Ga) : mth f ma mb Γ = M.bnd (ma Γ) fun x => M.bnd (isS x) fun _ => M.bnd (mb Γ) fun y => opt (f x y) := rfl
@[simp] theorem isS_str (a : Str) : isS (.str a) = M.ret () := rfl
def pick : List Str → List Bool → List Str
  | l :: ls, b :: bs => if b = true then l :: pick ls bs else pick ls bs
  | _, _ => []
theorem comp_pick (Γ : Ga) (hΓ : Γ.length = 5) : ∀ (ls : List Str) (bs : List Bool), compL (gT 2 (gsCons (gN 3) (gsCons (gN 4) gsNil))) (fun Γ => M.bnd (rdv Γ 4) asB) (fun Γ => rdv Γ 3) Γ (List.zipWith (fun a b => D.tup [a, b]) (ls.map D.str) (bs.map D.bl)) = M.ret ((pick ls bs).map D.str)
  | [], _ => rfl
  | _ :: _, [] => rfl
  | l :: ls, b :: bs => by
    match Γ, hΓ with
    | [a0, a1, a2, a3, a4], _ =>
      have ih := comp_pick [a0, a1, a2, a3, a4] rfl ls bs
      rw [List.map_cons, List.map_cons, List.zipWith_cons_cons]
      show (if b = true then M.bnd (compL _ _ _ [a0, a1, a2, a3, a4] (List.zipWith (fun a b => D.tup [a, b]) (ls.map D.str) (bs.map D.bl))) fun ys => M.ret (D.str l :: ys) else compL _ _ _ [a0, a1, a2, a3, a4] (List.zipWith (fun a b => D.tup [a, b]) (ls.map D.str) (bs.map D.bl))) = _
      rw [ih]
      cases b <;> rfl
theorem pick_none {c : Str} : ∀ {L : List (Str × Str)}, (∀ p ∈ L, p.1 ≠ c) → pick (L.map (·.2)) (L.map fun p => decide (c = p.1)) = []
  | [], _ => rfl
  | p :: L, h => by
    rw [List.map_cons, List.map_cons]
    show (if decide (c = p.1) = true then _ else _) = _
    rw [if_neg (by simpa using fun z => h p List.mem_cons_self z.symm)]
    exact pick_none fun q hq => h q (List.mem_cons_of_mem _ hq)
theorem pick_one {c l : Str} : ∀ {L : List (Str × Str)}, (L.map (·.1)).Nodup → (c, l) ∈ L → pick (L.map (·.2)) (L.map fun p => decide (c = p.1)) = [l]
  | [], _, h => by simp at h
  | p :: L, nd, h => by
    rw [List.map_cons, List.nodup_cons] at nd
    rw [List.map_cons, List.map_cons]
    show (if decide (c = p.1) = true then p.2 :: _ else _) = _
    rcases List.mem_cons.mp h with rfl | h
    · rw [if_pos (by simp), pick_none]
      intro q hq z
      exact nd.1 (List.mem_map.mpr ⟨q, hq, z⟩)
    · rw [if_neg]
      · exact pick_one nd.2 h
      · simp only [decide_eq_true_eq]
        intro z
        subst z
        exact nd.1 (List.mem_map.mpr ⟨_, h, rfl⟩)
theorem errL_nd : (errL.map (·.1)).Nodup := by decide +kernel
theorem errL_short : ∀ p ∈ errL, p.2.length ≤ 20 := by decide +kernel
theorem join_1 (a l : Str) : Txt.join a [l] = l := by
  first | rfl | simp [Txt.join]
theorem ev_named {c l : Str} (h : Lb c = some l) (x1 : Addr) (bs : MS) : namedM (fun d => isEM x1 0 (decide (c = d))) (initG 5 [.obj (.ref x1)]) bs = some (.ok (.rt (.str l)), bs) := by
  have hm : ∀ (b : Bool) (Γ : Ga), isEM x1 0 b (.d (.obj (.ref x1)) :: Γ) = M.ret (.bl b) := fun b Γ => if_pos rfl
  have hc := Lb_mem h
  have key : ∀ Γ : Ga, Γ.length = 5 → compL (gT 2 (gsCons (gN 3) (gsCons (gN 4) gsNil))) (fun Γ => M.bnd (rdv Γ 4) asB) (fun Γ => rdv Γ 3) Γ (List.zipWith (fun a b => D.tup [a, b]) (errL.map fun p => D.str p.2) (errL.map fun p => D.bl (decide (c = p.1)))) = M.ret [.str l] := fun Γ hΓ => by
    have e := comp_pick Γ hΓ (errL.map (·.2)) (errL.map fun p => decide (c = p.1))
    rw [List.map_map, List.map_map] at e
    rw [show (errL.map fun p => D.str p.2) = errL.map (D.str ∘ fun x => x.2) from rfl, show (errL.map fun p => D.bl (decide (c = p.1))) = errL.map (D.bl ∘ fun p => decide (c = p.1)) from rfl, e, pick_one errL_nd hc]
    rfl
  have key2 : ∀ Γ : Ga, Γ.length = 5 → compL (gT 2 (gsCons (gN 3) (gsCons (gN 4) gsNil))) (fun Γ => M.bnd (rdv Γ 4) asB) (fun Γ => rdv Γ 3) Γ (List.zipWith (fun a b => D.tup [a, b]) (errL.map fun p => D.str p.2) [D.bl (decide (c = "InvalidRule")), D.bl (decide (c = "InvalidStart")), D.bl (decide (c = "InvalidPrizes")), D.bl (decide (c = "InvalidSkill")), D.bl (decide (c = "InvalidRow")), D.bl (decide (c = "InvalidNumber")), D.bl (decide (c = "InvalidWords")), D.bl (decide (c = "InvalidIndex")), D.bl (decide (c = "InvalidScore")), D.bl (decide (c = "InvalidSeen")), D.bl (decide (c = "InvalidCards")), D.bl (decide (c = "InvalidText")), D.bl (decide (c = "TooMany")), D.bl (decide (c = "Unlike")), D.bl (decide (c = "NothingToUndo"))]) = M.ret [.str l] := key
  have hj : D.join (.str " ") (.lst [.str l]) = some (.str l) := by
    show ((some [l]).bind fun ys => if (ys.map (·.length)).sum + ys.length * (Str.ofString " ").length ≤ 16777216 then some (D.str (Txt.join " " ys)) else none) = _
    have := errL_short _ hc
    have h1 : (Str.ofString " ").length = 1 := by decide +kernel
    rw [Option.bind_some, if_pos, join_1]
    rw [h1]
    simp only [List.map_cons, List.map_nil, List.sum_cons, List.sum_nil, List.length_cons, List.length_nil]
    have h2 : l.length ≤ 20 := this
    omega
  simp (config := { decide := false }) only [namedM, initG, List.map_cons, List.map_nil, List.length_cons, List.length_nil, List.replicate, List.cons_append, List.nil_append, seqM_ap, asgM_ap, bin_ap, rdv_s, rdv_0, hm, consM_ret, bnd_ret, lstK, Nat.reduceSub, Nat.reduceAdd, Nat.reduceLeDiff, if_true, opt_ret, seqK_nx, gN_ap, addLL, List.set_cons_succ, List.set_cons_zero, retM_ap, mth_ap, isS_str, lstOf_ap, compM_ap, split_labelsD]
  have z : ∀ xs ys : List D, zipLK [.lst xs, .lst ys] = M.ret (List.zipWith (fun a b => D.tup [a, b]) xs ys) := fun _ _ => rfl
  rw [z, bnd_ret, lenK_ap (by rw [List.length_zipWith]; exact Nat.le_trans (Nat.min_le_right _ _) (by simp only [List.length_cons, List.length_nil]; decide)), bnd_ret, key2 _ (by rfl), bnd_ret, bnd_ret]
  rw [hj]
  rfl
end DL

set_option Elab.async false
set_option linter.all false
set_option maxRecDepth 100000
set_option maxHeartbeats 400000
/-! Reading mirrors, more. -/
namespace DL
open PySem PySem.Spec PyProof.Rows L2
theorem errM_ret {Lb : Str → Option Str} {m : Ga → M D} {Γ : Ga} {x : D} (h : m Γ = M.ret x) : errM Lb m Γ = M.ret (.str "") := by
  funext b
  unfold errM
  rw [h]
  rfl
theorem errM_raise {Lb : Str → Option Str} {m : Ga → M D} {Γ : Ga} {c l : Str} (h : m Γ = raise c) (hl : Lb c = some l) : errM Lb m Γ = M.ret (.str l) := by
  funext b
  unfold errM
  rw [h]
  show (match Lb c with | some l => some (Res.ok (D.str l), b) | none => none) = _
  rw [hl]
  rfl
theorem toldM_ret {Lb : Str → Option Str} {m : Ga → M D} {Γ : Ga} {x : D} (h : m Γ = M.ret x) : toldM Lb m Γ = M.ret (.tup [x, .str ""]) := by
  funext b
  unfold toldM
  rw [h]
  rfl
theorem toldM_raise {Lb : Str → Option Str} {m : Ga → M D} {Γ : Ga} {c l : Str} (h : m Γ = raise c) (hl : Lb c = some l) : toldM Lb m Γ = M.ret (.tup [.non, .str l]) := by
  funext b
  unfold toldM
  rw [h]
  show (match Lb c with | some l => some (Res.ok (D.tup [.non, .str l]), b) | none => none) = _
  rw [hl]
  rfl
/-- a comprehension that picks -/
theorem comp_filter {st : D → Ga → Option Ga} {mt : Ga → M Bool} {me : Ga → M D} {Γ : Ga} (p : D → Bool) : ∀ xs : List D, (∀ x ∈ xs, ∃ Γ1, st x Γ = some Γ1 ∧ mt Γ1 = M.ret (p x) ∧ me Γ1 = M.ret x) → compL st mt me Γ xs = M.ret (xs.filter p)
  | [], _ => rfl
  | x :: xs, k => by
    obtain ⟨Γ1, e1, h1, h2⟩ := k x List.mem_cons_self
    have ih := comp_filter p xs fun z hz => k z (List.mem_cons_of_mem _ hz)
    show (M.bnd (opt (st x Γ)) fun Γ1 => M.bnd (DL.calm (mt Γ1)) fun k => if k = true then M.bnd (DL.calm (me Γ1)) fun y => M.bnd (compL st mt me Γ xs) fun ys => M.ret (y :: ys) else compL st mt me Γ xs) = _
    rw [e1, bnd_optS, h1, calm_ret, bnd_ret]
    cases q : p x with
    | true =>
      rw [if_pos rfl, h2, calm_ret, bnd_ret, ih, List.filter_cons_of_pos q]
      rfl
    | false => rw [if_neg Bool.false_ne_true, ih, List.filter_cons_of_neg (by rw [q]; exact Bool.false_ne_true)]
theorem eq_of {x y : D} (h1 : okE 20 x = true) (h2 : okE 20 y = true) : D.eq x y = some (.bl (PyData.eqv (py x) (py y))) := if_pos ⟨h1, h2⟩
theorem ne_of' {x y : D} (h1 : okE 20 x = true) (h2 : okE 20 y = true) : D.ne x y = some (.bl (!PyData.eqv (py x) (py y))) := if_pos ⟨h1, h2⟩
theorem eqv_str (a b : Str) : PyData.eqv (py (.str a)) (py (.str b)) = decide (a = b) := by
  simp only [py, PyData.eqv]
  by_cases h : a = b
  · subst h; simp
  · rw [decide_eq_false h]
    exact beq_eq_false_iff_ne.mpr h
theorem eq_str {a b : Str} (h1 : okE 20 (.str a) = true) (h2 : okE 20 (.str b) = true) : D.eq (.str a) (.str b) = some (.bl (decide (a = b))) := by rw [eq_of h1 h2, eqv_str]
theorem ne_str {a b : Str} (h1 : okE 20 (.str a) = true) (h2 : okE 20 (.str b) = true) : D.ne (.str a) (.str b) = some (.bl (!decide (a = b))) := by rw [ne_of' h1 h2, eqv_str]
mutual
theorem eqv_self : ∀ (n : Nat) (d : D), okE n d = true → PyData.eqv (py d) (py d) = true
  | n, .non, _ => by simp [py, PyData.eqv]
  | n, .bl b, _ => by simp [py, PyData.eqv]
  | n, .int i, _ => by simp [py, PyData.eqv]
  | n, .str x, _ => by simp [py, PyData.eqv]
  | 0, .tup ds, o => by simp [okE] at o
  | n + 1, .tup ds, o => by
    simp only [py, PyData.eqv]
    exact eqvs_self n ds (by simpa only [okE] using o)
  | 0, .lst ds, o => by simp [okE] at o
  | n + 1, .lst ds, o => by
    simp only [py, PyData.eqv]
    exact eqvs_self n ds (by simpa only [okE] using o)
  | n, .bag, o => by simp [okE] at o
  | n, .obj _, o => by simp [okE] at o
  | n, .scr _, o => by simp [okE] at o
  | n, .fn _, o => by simp [okE] at o
  | n, .card, o => by simp [okE] at o
  | n, .crd _, o => by simp [okE] at o
theorem eqvs_self : ∀ (n : Nat) (ds : List D), okEs n ds = true → PyData.eqvAll (pys ds) (pys ds) = true
  | n, [], _ => by simp [pys, PyData.eqvAll]
  | n, d :: ds, o => by
    simp only [okEs, Bool.and_eq_true] at o
    simp only [pys, PyData.eqvAll, Bool.and_eq_true]
    exact ⟨eqv_self n d o.1, eqvs_self n ds o.2⟩
end
theorem eq_self {x : D} (h : okE 20 x = true) : D.eq x x = some (.bl true) := by rw [eq_of h h, eqv_self 20 x h]
theorem ne_self {x : D} (h : okE 20 x = true) : D.ne x x = some (.bl false) := by rw [ne_of' h h, eqv_self 20 x h] <;> rfl
theorem eq_nil {n : Nat} (ds : List D) (h : okEs 19 ds = true) : D.eq (.lst ds) (.lst []) = some (.bl ds.isEmpty) := by
  rw [eq_of (by simpa only [okE] using h) (by kernel_rfl)]
  cases ds <;> simp [py, pys, PyData.eqv, PyData.eqvAll]
theorem ne_nil (ds : List D) (h : okEs 19 ds = true) : D.ne (.lst ds) (.lst []) = some (.bl (!ds.isEmpty)) := by
  rw [ne_of' (by simpa only [okE] using h) (by kernel_rfl)]
  cases ds <;> simp [py, pys, PyData.eqv, PyData.eqvAll]
theorem okEs_all {n : Nat} : ∀ {ds : List D}, (∀ d ∈ ds, okE n d = true) → okEs n ds = true
  | [], _ => by simp [okEs]
  | d :: ds, h => by
    simp only [okEs, Bool.and_eq_true]
    exact ⟨h d List.mem_cons_self, okEs_all fun z hz => h z (List.mem_cons_of_mem _ hz)⟩
theorem cut_from {α : Type} (xs : List α) (k : Nat) : cutL xs (some (k : Int)) none = xs.drop k := by
  unfold cutL
  show List.take (xs.length - HT.sIx xs.length 0 (some (k : Int))) (List.drop (HT.sIx xs.length 0 (some (k : Int))) xs) = _
  rw [HT.sIx_nat]
  by_cases c : k ≤ xs.length
  · rw [Nat.min_eq_left c, List.take_of_length_le (by rw [List.length_drop]; exact Nat.le_refl _)]
  · rw [Nat.min_eq_right (by omega), List.drop_of_length_le (Nat.le_refl _), List.drop_of_length_le (by omega), List.take_nil]
theorem gA_l {n : Nat} {ds : List D} {Γ : Ga} (ms : List D → Ga → Option Ga) (h : ds.length = n) : gA n ms (.lst ds) Γ = ms ds Γ := if_pos h
theorem gA_t {n : Nat} {ds : List D} {Γ : Ga} (ms : List D → Ga → Option Ga) (h : ds.length = n) : gA n ms (.tup ds) Γ = ms ds Γ := if_pos h
/-- raised within: what comes of it -/
theorem run_ret {n : Nat} {m : Ga → M Fl} {ds : List D} {d : D} (h : m (initG n ds) = M.ret (.rt d)) : runD n m ds = M.ret d := by
  unfold runD
  rw [h]
  rfl
theorem run_raise {n : Nat} {m : Ga → M Fl} {ds : List D} {c : Str} (h : m (initG n ds) = raise c) : runD n m ds = raise c := by
  unfold runD
  rw [h]
  rfl
end DL

set_option Elab.async false
set_option linter.all false
set_option maxRecDepth 100000
set_option maxHeartbeats 2000000
/-! A lambda with one parameter, handed to a def that calls it from within a lambda of its own.
What the maker has untracked is taken into the base that the callee runs over: so it is there at any depth. -/
namespace DL
open PySem PySem.Spec PyProof.Rows L2
/-- the base of the callee: all that is untracked, but the frames -/
def baseOf (X : Cx) (s : Shared) (H : Hp) : Heap := PySem.W.hideAll s.heap (trk s.heap H ++ frs X.stack)
theorem Mod.up {K : PySem.W.Frag} {mg : Str → Option Value} {base b2 : Heap} (m : Mod K mg base) (k : ∀ b o, base.get? b = some o → b2.get? b = some o) : Mod K mg b2 :=
  ⟨m.kin.keeps k, m.glob.keeps k, let ⟨mb, h1, h2⟩ := m.blt; ⟨mb, h1.keeps k, h2⟩, m.nolimit.keeps k⟩
theorem TabB.up {base b2 : Heap} {mg : Str → Option Value} {c P : Addr} (t : LamX.TabB base mg c P) (k : ∀ b o, base.get? b = some o → b2.get? b = some o) : LamX.TabB b2 mg c P :=
  ⟨t.code.keeps k, t.bm.keeps k, t.gP⟩
theorem TBs.up {K : PySem.W.Frag} {mg : Str → Option Value} {base b2 : Heap} {tf : List He.Defn} (t : TBs K mg base tf) (k : ∀ b o, base.get? b = some o → b2.get? b = some o) : TBs K mg b2 tf :=
  fun p hp => TabB.up (t p hp) k
section
variable {X : Cx} {pins : List (Addr × Obj)} {σ : L2.St} {H HZ : Hp} {s s1 : Shared}
theorem baseOf_of {b : Addr} {o : Obj} (e : (baseOf X s H).get? b = some o) : s.heap.get? b = some o ∧ H b = none := by
  have e' : s.heap.get? b = some o := PySem.W.of_hideAll _ e
  refine ⟨e', ?_⟩
  cases q : H b with
  | none => rfl
  | some x =>
    have hm : b ∈ trk s.heap H ++ frs X.stack := List.mem_append_left _ (List.mem_filter.mpr ⟨List.mem_range.mpr (Heap.lt_size e'), by simp [q]⟩)
    have z : (baseOf X s H).get? b = none := PySem.W.hideAll_none _ hm
    rw [z] at e; cases e
theorem baseOf_get {b : Addr} {o : Obj} (e : s.heap.get? b = some o) (n : H b = none) (f : b ∉ frs X.stack) : (baseOf X s H).get? b = some o :=
  PySem.W.hideAll_get _ e fun hm => by
    rcases List.mem_append.mp hm with z | z
    · have q : (H b).isSome = true := (List.mem_filter.mp z).2
      rw [n] at q; simp at q
    · exact f z
theorem base_nofr (I : Inv X pins σ H s) {b : Addr} {o : Obj} (e : X.base.get? b = some o) : b ∉ frs X.stack := fun z => by
  rcases List.mem_cons.mp (I.stkSub b z) with h | h
  · have h1 := Nat.lt_of_lt_of_le (Heap.lt_size e) (Nat.le_trans I.ok.bsz I.ok.above)
    rw [h] at h1
    exact Nat.lt_irrefl _ h1
  · exact I.ok.nofr e h
theorem base_le (I : Inv X pins σ H s) : ∀ b o, X.base.get? b = some o → (baseOf X s H).get? b = some o := fun b o e => baseOf_get (I.bs b o e).1 (I.bs b o e).2 (base_nofr I e)
theorem base_size : (baseOf X s H).objs.size = s.heap.objs.size := PySem.W.hideAll_size _ _
/-- the callee is entered over the greater base -/
theorem env0_up (I : Inv X pins σ H s) : Env0 X.prog X.w X.K X.mg (baseOf X s H) X.A X.stack s H := by
  have e0 := I.env0
  exact ⟨e0.frames, Mod.up e0.mod (base_le I), fun b o e => baseOf_of e, Nat.le_of_eq base_size, funFrames_none e0.funs fun L hL => PySem.W.hideAll_none _ (List.mem_append_right _ hL), e0.frf, e0.hok, e0.bare⟩
theorem env0_down {P : Program} {w : World} {K : PySem.W.Frag} {mg : Str → Option Value} {base b2 : Heap} {A : Around} {outer : List Env} (e0 : Env0 P w K mg b2 A outer s H) (m : Mod K mg base) (k : ∀ b o, base.get? b = some o → b2.get? b = some o) (hz : base.objs.size ≤ b2.objs.size) : Env0 P w K mg base A outer s H := by
  refine ⟨e0.frames, m, fun b o e => e0.bs b o (k b o e), Nat.le_trans hz e0.bsz, funFrames_none e0.funs fun L hL => ?_, e0.frf, e0.hok, e0.bare⟩
  have h := (e0.funs.mem hL).1
  cases q : base.get? L with
  | none => rfl
  | some o =>
    rw [k L o q] at h
    cases h
end
/-! ### the lambda's names: its parameter, captured ones, globals -/
structure LamS1 (sc scope : Scope) (x : Str) : Prop where
  kind : scope.kind = .function
  co : scope.isCoroutine = false
  gen : scope.isGenerator = false
  par : scope.names.lookup x = some .local
  own : ∀ y ∈ scope.names, (y.2 = .local → y.1 = x) ∧ y.2 ≠ .cell
  free : ∀ y ∈ scope.names, y.2 = .free → sc.names.lookup y.1 = some .cell ∨ sc.names.lookup y.1 = some .free
def lamSB1 (sc scope : Scope) (x : Str) : Bool :=
  decide (scope.kind = .function) && !scope.isCoroutine && !scope.isGenerator && decide (scope.names.lookup x = some .local) && scope.names.all fun y => (!decide (y.2 = .local) || decide (y.1 = x)) && !decide (y.2 = .cell) && (!decide (y.2 = .free) || decide (sc.names.lookup y.1 = some .cell) || decide (sc.names.lookup y.1 = some .free))
theorem lamS1_by {sc scope : Scope} {x : Str} (h : lamSB1 sc scope x = true) : LamS1 sc scope x := by
  unfold lamSB1 at h
  simp only [Bool.and_eq_true, Bool.or_eq_true, Bool.not_eq_true', decide_eq_true_eq, decide_eq_false_iff_not, List.all_eq_true] at h
  obtain ⟨⟨⟨⟨h1, h2⟩, h3⟩, h0⟩, h4⟩ := h
  refine ⟨h1, h2, h3, h0, fun y hy => ⟨fun e => ?_, (h4 y hy).1.2⟩, fun y hy e => ?_⟩
  · rcases (h4 y hy).1.1 with z | z
    · exact absurd e z
    · exact z
  · rcases (h4 y hy).2 with (z | z) | z
    · exact absurd e z
    · exact .inl z
    · exact .inr z
theorem LamS1.has {X : Cx} {scope : Scope} {x : Str} (L : LamS1 X.env.scope scope x) (ok : X.Ok) : ∀ y ∈ scope.names, y.2 = .free → ∃ c, X.env.cells.lookup y.1 = some c := fun y hy e => by
  rcases L.free y hy e with k | k
  · exact ok.has _ (.inl k)
  · exact ok.has _ (.inr k)
section
variable {X : Cx} {pins : List (Addr × Obj)} {σ : L2.St} {H HZ : Hp} {s s1 : Shared}
theorem lam_start1 {A : Around} {outer : List Env} {E : XK} {scope : Scope} {x : Str} {i : Nat} {u : Value} {v : V} {f c' : Addr} {h₁ : Heap} {tk : Nat} (I : Inv X pins σ H s) (L : LamS1 X.env.scope scope x) (hN : X.N.Nodup) (hi : X.N[i]? = some x) (r : RelV v u)
    (e0 : Env0 X.prog X.w X.K X.mg X.base A outer s1 HZ) (hd : A.handled = none)
    (kc : ∀ y c, X.env.cells.lookup y = some c → ∀ o, s.heap.get? c = some o → s1.heap.get? c = some o ∧ HZ c = none) (hns : h₁.Ns s1.heap.objs.size fun y => ([(x, u)] : List (Str × Value)).reverse.lookup y) (kp : ∀ b o, s1.heap.get? b = some o → h₁.get? b = some o) :
    Inv (lamX X A outer s1 HZ E scope f c') [] (σ.set i (some v)) HZ { s1 with heap := h₁, toks := tk } := by
  refine Inv.toTry (X := LamX.lamCx X A outer s1 HZ E scope f c') ?_ _
  have hfree := L.has I.ok
  have cm : ∀ {y c}, (cloFrom X.env.cells scope.names []).lookup y = some c → X.env.cells.lookup y = some c := fun {y c} e => by
    rcases cloFrom_mem (PySem.mem_of_lookup e) with hm | ⟨h1, h2⟩
    · cases hm
    · obtain ⟨c1, hc⟩ := hfree _ h1 rfl
      have hc : X.env.cells.lookup y = some c1 := hc
      have e2 : c = c1 := by
        rw [h2, hc] <;> rfl
      rw [e2]
      exact hc
  have look : ∀ {y}, scope.names.lookup y = some .free → ∃ c, (cloFrom X.env.cells scope.names []).lookup y = some c := fun {y} hl => by
    have hy : (y, NameKind.free) ∈ scope.names := PySem.mem_of_lookup hl
    exact mem_lookup (cloFrom_has (cells := X.env.cells) (acc := []) hy)
  have cellK : ∀ {y : Str} {c : Addr} {v : Option Value}, X.env.cells.lookup y = some c → s.heap.IsCell c v → h₁.IsCell c v := fun {y c v} e ⟨o, ho, hd⟩ => ⟨o, kp _ _ (kc y c e o ho).1, hd⟩
  have noA : ∀ b : Addr, b ∉ (LamX.lamCx X A outer s1 HZ E scope f c').ex := fun b z => absurd (show b ∈ ([] : List Addr) from z) (by simp)
  refine ⟨⟨e0.mod, L.kind, rfl, rfl, Nat.le_refl _, fun y z c e1 e2 => I.ok.inj y z c (cm e1) (cm e2), fun y hy => ?_, fun y c z _ => ?_, fun _ => hd, Around.frames_deeper e0.frames, .inr ⟨rfl, rfl⟩, fun b z => absurd z (noA b), e0.bs, e0.bsz, fun b _ _ => noA b,
      fun b z => absurd z (noA b), e0.funs, e0.frf⟩,
    rfl, e0.bare, Un.kept kp, ⟨_, hns, fun j y w e1 e2 e3 => ?_⟩, fun y c e => ?_, e0.hok.fresh (Nat.le_refl _), fun y c e => ?_, fun q hq => absurd (show q ∈ ([] : List (Addr × Obj)) ++ [] from hq) (by simp), e0.hok.kept kp, by rw [List.length_set]; exact I.len⟩
  · have hy : scope.names.lookup y = some .cell ∨ scope.names.lookup y = some .free := hy
    rcases hy with hy | hy
    · exact absurd rfl (L.own _ (PySem.mem_of_lookup hy)).2
    · exact look hy
  · have z : false = true := z
    cases z
  · have e3 : Vis scope y := e3
    have e1 : X.N[j]? = some y := e1
    rcases e3 with k | k | k
    · have hy : y = x := (L.own _ (PySem.mem_of_lookup k)).1 rfl
      subst hy
      have hj : j = i := nodup_ix hN e1 hi
      subst hj
      have hlt : j < σ.length := by rw [I.len]; exact (List.getElem?_eq_some_iff.mp hi).1
      rw [List.getElem?_set_self hlt] at e2
      cases e2
      exact ⟨u, r, .inl ⟨k, by simp⟩⟩
    · exact absurd rfl (L.own _ (PySem.mem_of_lookup k)).2
    · have hj : j ≠ i := fun z => by
        subst z
        rw [hi] at e1
        cases e1
        rw [L.par] at k
        cases k
      rw [List.getElem?_set_ne (Ne.symm hj)] at e2
      obtain ⟨m, hn, hl⟩ := I.loc
      have hvis : Vis X.env.scope y := (L.free _ (PySem.mem_of_lookup k) rfl).elim (fun k => .inr (.inl k)) (fun k => .inr (.inr k))
      obtain ⟨w', r', q⟩ := hl j y w e1 e2 hvis
      obtain ⟨c2, h2⟩ := look k
      refine ⟨w', r', .inr ⟨.inr k, c2, h2, ?_⟩⟩
      have c1 := cm h2
      rcases q with ⟨k', _⟩ | ⟨_, c3, e', z⟩
      · have k' : X.env.scope.names.lookup y = some .local := k'
        rcases L.free _ (PySem.mem_of_lookup k) rfl with k2 | k2 <;> rw [show X.env.scope.names.lookup y = _ from k2] at k' <;> cases k'
      · rw [c1] at e'
        cases e'
        exact cellK c1 z
  · obtain ⟨w', z⟩ := I.cell y c (cm e)
    exact ⟨w', cellK (cm e) z⟩
  · obtain ⟨v', o, ho, hd⟩ := I.cell y c (cm e)
    exact (kc y c (cm e) o ho).2
/-- x(e), x a name that holds the lambda f of X (entered at s, H), in any context over the base of that entry -/
theorem pe_act1 {Z : Cx} {f c' : Addr} {pm ctv : Value} {params : Arguments} {body : Expr} {scope : Scope} {k i j iz : Nat} {a x y : Str} {E : XK} {tb : TE} {p1 p2 p3 : Pos}
    (I : Inv X pins σ H s) (hcf : ∀ y c, X.env.cells.lookup y = some c → c ∉ frs X.stack) (hXN : X.N.Nodup) (hXi : X.N[i]? = some x) (L : LamS1 X.env.scope scope x) (hf : s.heap.get? f = some (PySem.W.kla_obj "<lambda>" (X.env.qual ++ "<lambda>") params body scope (cloFrom X.env.cells scope.names []) pm c' ctv)) (hfl : H f = none) (hfr : f ∉ frs X.stack)
    (hbind : ∀ u, bindArgs (PySem.W.kla_fn "<lambda>" (X.env.qual ++ "<lambda>") params body scope (cloFrom X.env.cells scope.names []) pm (.ref c') ctv) ⟨[u], []⟩ = pure [(x, u)])
    (z1 : Z.prog = X.prog) (z2 : Z.w = X.w) (z3 : Z.K = X.K) (z4 : Z.mg = X.mg) (z5 : Z.base = baseOf X s H)
    (hx : Passes (L2N.CX X.prog X.w) Z E) (hr : Room (k + 1) Z.A)
    (hbody : ∀ (A : Around) (outer : List Env) (s : Shared) (H : Hp), Room k (A.deeper (LamX.lamEnv X scope s.heap.objs.size f c')) → PE (lamX X A outer s H E scope f c') body tb)
    (hN : Z.N[j]? = some a) (hv : Vis Z.env.scope a) (hN2 : Z.N[iz]? = some y) (hv2 : Vis Z.env.scope y) (hd : (a == ("__debug__" : Str)) = false) (hcd : (a == ("__classdict__" : Str)) = false) (hd2 : (y == ("__debug__" : Str)) = false) (hcd2 : (y == ("__classdict__" : Str)) = false) :
    PE Z (.Call (.Name a p1) [.Name y p3] [] p2)
      (fun σZ HZ Q => σZ[j]? = some (some (.ref f)) ∧ CoK HZ c' (X.env.qual ++ "<lambda>") ∧ ∃ v, σZ[iz]? = some (some v) ∧ tb (σ.set i (some v)) HZ Q) := by
  obtain ⟨prog, w, K, mg, base, A, N, s_0, H_0, env, outer, stack, ex, fn, calm, pn, xe⟩ := Z
  dsimp only at z1 z2 z3 z4 z5
  subst z1 z2 z3 z4 z5
  generalize hZ : (⟨X.prog, X.w, X.K, X.mg, baseOf X s H, A, N, s_0, H_0, env, outer, stack, ex, fn, calm, pn, xe⟩ : Cx) = Z at *
  have zp : X.prog = Z.prog := by rw [← hZ]
  have zw : X.w = Z.w := by rw [← hZ]
  have zb : Z.base = baseOf X s H := by rw [← hZ]
  have zk : X.K = Z.K := by rw [← hZ]
  have zm : X.mg = Z.mg := by rw [← hZ]
  refine ⟨fun pinsZ sZ σZ HZ Q IZ h => ?_⟩
  obtain ⟨hs, hc, v, hvz, ht⟩ := h
  have obf : (baseOf X s H).get? f = some (PySem.W.kla_obj "<lambda>" (X.env.qual ++ "<lambda>") params body scope (cloFrom X.env.cells scope.names []) pm c' ctv) := baseOf_get hf hfl hfr
  have ofl : ∀ {pins' σ' H' s'}, Inv Z pins' σ' H' s' → s'.heap.get? f = some (PySem.W.kla_obj "<lambda>" (X.env.qual ++ "<lambda>") params body scope (cloFrom X.env.cells scope.names []) pm c' ctv) := fun I' => (I'.bs f _ (by rw [zb]; exact obf)).1
  refine wpAny_Call_Name_kw (thn ((pe_var (pos := p1) (i := j) hN hv hd hcd).run pinsZ sZ σZ HZ (fun v H1 => v = .ref f ∧ H1 = HZ) IZ ⟨.ref f, hs, rfl, rfl⟩) fun u s1 ⟨v0, H1, I1, r1, q1⟩ => ?_)
  obtain ⟨ev, eH⟩ := q1
  subst ev
  rw [eH] at I1
  obtain rfl : u = Value.ref f := r1
  have ha : PA Z [.Name y p3] (tCons (tVar iz) tNil) := pa_cons (pe_var hN2 hv2 hd2 hcd2) pa_nil rfl
  refine PySem.W.callWith_F ⟨_, _, _, _, ofl I1⟩ (thn (ha.run p2 pinsZ s1 σZ HZ (fun vs H1 => vs = [v] ∧ H1 = HZ) I1 ⟨v, hvz, rfl, rfl⟩) fun us s2 ⟨vs, H2, I2, r, q⟩ => ?_) rfl rfl
  obtain ⟨ev, eH⟩ := q
  subst ev
  rw [eH] at I2
  obtain ⟨u, rfl, r1⟩ := vals1 r
  have of2 := ofl I2
  refine ⟨⟨_, _, _, _, of2⟩, ?_⟩
  obtain ⟨oc, vs, t, hoc, hdc, hvc⟩ := hc.at I2.hok
  have e0 : Env0 X.prog X.w X.K X.mg X.base Z.A Z.stack s2 HZ := by
    have := I2.env0
    rw [← zp, ← zw, ← zk, ← zm, zb] at this
    exact env0_down this I.ok.mod (base_le I) (by rw [base_size]; exact Nat.le_trans I.ok.bsz I.sz)
  have rc : codeAny (model X.prog X.w) Z.A (.call (.ref f) ⟨[u], []⟩) (CR (L2N.CX X.prog X.w) Z.stack X.prog X.w HZ s2 Q E) s2 := by
    refine PySem.W.kla_callFunE hr.depth of2 rfl L.co L.gen rfl ⟨c', oc, vs, t, rfl, hoc, hdc, hvc⟩ ?_
    rw [hbind]
    refine wpAny_pure (wpAny_newFunctionEnv (fun y hy => (L.own y hy).2) (fun y hy => by rw [List.mem_singleton.mp hy]; exact L.par) (fun h₁ hns hsb => ⟨I2.nolimit.fresh _ hsb, ?_⟩) L.kind)
    show codeAny _ _ (.expr body (LamX.lamEnv X scope s2.heap.objs.size f c')) _ _
    have kp : ∀ b o, s2.heap.get? b = some o → h₁.get? b = some o := fun b o e => hsb.extBut b o (Nat.ne_of_lt (Heap.lt_size e)) (Heap.get?_push_of_some _ e)
    have kc : ∀ y c, X.env.cells.lookup y = some c → ∀ o, s.heap.get? c = some o → s2.heap.get? c = some o ∧ HZ c = none := fun y c e o ho => I2.bs c o (by rw [zb]; exact baseOf_get ho (I.freeC y c e) (hcf _ _ e))
    have J := lam_start1 (E := E) (f := f) (c' := c') (tk := s2.toks + ([(x, u)] : List (Str × Value)).length) I L hXN hXi r1 e0 hr.hd kc hns kp
    refine PySem.W.kla_codeExpr (wpAny_mono ((hbody _ _ s2 HZ (hr.deeper _)).run [] _ _ HZ Q J ht) (fun v s' hq => ?_) fun e s' hq => hq)
    obtain ⟨w', H', J', rv, q⟩ := hq
    exact ⟨w', H', J'.os, J'.bare, J'.base, J'.hok, rv, q⟩
  rw [← zp, ← zw]
  refine wpAny_call (codeAny_mono rc fun r s' hq => ?_)
  cases r with
  | error e => exact hx pinsZ σZ HZ s2 e s' I2 hq
  | ok fl =>
    cases fl with
    | ret u =>
      rw [zp, zw] at hq
      exact I2.after hq
    | next => exact False.elim hq
    | brk => exact False.elim hq
    | cont => exact False.elim hq
end
end DL

set_option Elab.async false
set_option linter.all false
set_option maxRecDepth 100000
set_option maxHeartbeats 2000000
/-! `all_refused(lambda odd: E, odds, name)` as one expression. -/
namespace DL
open PySem PySem.Spec PyProof.Rows L2
/-- the entry is known -/
abbrev gP (g : Gx) (ba : Mu) (B H : Hp) : Gx := ⟨g.T, g.ca, fun ba' B' H' => ba' = ba ∧ B' = B ∧ H' = H⟩
theorem Step.toG {g g2 : Gx} {ba : Mu} {B H B' H' : Hp} (s : Step g ba B H B' H') (e : g2.T = g.T) : Step g2 ba B H B' H' := ⟨s.bb, s.hh, s.bh, s.nw, by rw [e]; exact s.tb⟩
section
variable {g : Gx} {Lb : Str → Option Str} {K : PySem.W.Frag} {t : XK → TE} {m : Ga → M D} {ba0 : Mu} {Bp Hq : Hp}
theorem dg_lamErrP (ht : ∀ E, DG (gP g ba0 Bp Hq) K E (RD K) (t E) m) {E : XK} : DG (gP g ba0 Bp Hq) K E (RD K) (tLamN (gP g ba0 Bp Hq).T (ttErr g Lb) t) (errM Lb m) := by
  intro ba B0 H0 σ Γ bs B H s Q hn h1 h2
  refine ⟨s.tab, fun H1 eN dm T1 => ?_⟩
  have t1 : Step (gP g ba0 Bp Hq) ba B H B H1 := Step.table s.sub eN dm T1
  have i1 := s.bag.table eN
  have s1 := s.step t1 i1
  refine ht _ ba B0 H0 σ Γ bs B H1 s1 _ (fun z => hn (by unfold errM; rw [z])) (fun x bs' e v B' H' t' b' d' => ?_) (fun c bs' e B' H' t' b' => ?_)
  · exact h1 (.str "") bs' (by unfold errM; rw [e]) _ B' H' (t1.trans i1 t') b' den_str'
  · cases hl : Lb c with
    | none => exact absurd (by unfold errM; rw [e]; dsimp only; rw [hl]) hn
    | some l =>
      exact ⟨c, l, ba, B', bs', rfl, rfl, hl, t'.bh, t'.off i1 s1.off, b', t'.tb T1, fun B2 H2 t2 b2 => h1 (.str l) bs' (by unfold errM; rw [e]; dsimp only; rw [hl]) _ B2 H2 ((t1.trans i1 t').trans b' (t2.toG rfl)) b2 den_str'⟩
end
section
variable {g : Gx} {Lb : Str → Option Str} {X : Cx} {E : XK} {m : Ga → M D} {x : Str} {k k' : Nat} {params : Arguments} {body : Expr} {scope : Scope} {p lpos pos : Pos} {te : TE} {ba0 : Mu} {Bp Hq : Hp}
theorem pd_lErrP0 (O : OkE X.prog X.w X.K X.mg X.base k' x (ttErr g Lb)) (F : LamF (gP g ba0 Bp Hq) X scope params body lpos) (hr : Room (k + 2) X.A) (hk' : k' ≤ k + 1)
    (hbody : ∀ (A : Around) (outer : List Env) (s : Shared) (H : Hp) (E : XK) (f c' : Addr), Still g.T X scope lpos outer H c' → Room k (A.deeper (LamX.lamEnv X scope s.heap.objs.size f c')) → ∃ t, PD (gP g ba0 Bp Hq) E (lamX X A outer s H E scope f c') body t m)
    (hg : Gl X x := by rfl) (hdb : (x == ("__debug__" : Str)) = false := by decide) : ∃ t, PD (gP g ba0 Bp Hq) E X (.Call (.Name x p) [.Lambda params body scope lpos] [] pos) t (errM Lb m) := pd_lam0 O F hr hk' (fun t ht => dg_lamErrP ht) hbody hg hdb
theorem pd_lErrP (O : OkE X.prog X.w X.K X.mg X.base k' x (ttErr g Lb)) (F : LamF (gP g ba0 Bp Hq) X scope params body lpos) (hr : Room (k + 2) X.A) (hk' : k' ≤ k + 1)
    (hbody : ∀ (A : Around) (outer : List Env) (s : Shared) (H : Hp) (E : XK) (f c' : Addr), Still g.T X scope lpos outer H c' → Room k (A.deeper (LamX.lamEnv X scope s.heap.objs.size f c')) → ∃ t, PD (gP g ba0 Bp Hq) E (lamX X A outer s H E scope f c') body t m)
    (hg : Gl X x := by rfl) (hdb : (x == ("__debug__" : Str)) = false := by decide) (e : te = Classical.choose (pd_lErrP0 (E := E) (p := p) (pos := pos) O F hr hk' hbody hg hdb) := by rfl) : PD (gP g ba0 Bp Hq) E X (.Call (.Name x p) [.Lambda params body scope lpos] [] pos) te (errM Lb m) := by
  subst e
  exact Classical.choose_spec (pd_lErrP0 (E := E) (p := p) (pos := pos) O F hr hk' hbody hg hdb)
end
/-! ### call(odd), within the lambda of the def that got it -/
def actO (f : Addr) (mm : D → M D) : Option S → Option S → M D
  | some (.d (.obj (.ref f'))), some (.d o) => if f' = f then mm o else stuck
  | _, _ => stuck
def actM (f : Addr) (mm : D → M D) : Ga → M D := fun Γ => actO f mm Γ[0]? Γ[3]?
theorem actO_inv {f : Addr} {mm : D → M D} {x y : Option S} {bs : MS} (h : actO f mm x y bs ≠ none) : ∃ o, x = some (.d (.obj (.ref f))) ∧ y = some (.d o) ∧ actO f mm x y = mm o := by
  unfold actO at h ⊢
  split at h
  · rename_i f' o
    by_cases c : f' = f
    · subst c
      exact ⟨o, rfl, rfl, if_pos rfl⟩
    · rw [if_neg c] at h
      exact absurd rfl h
  · exact absurd rfl h
theorem actM_inv {f : Addr} {mm : D → M D} {Γ : Ga} {bs : MS} (h : actM f mm Γ bs ≠ none) : ∃ o, Γ[0]? = some (.d (.obj (.ref f))) ∧ Γ[3]? = some (.d o) ∧ actM f mm Γ = mm o := actO_inv h
theorem BagIs.notC {ba : Mu} {bs : MS} {H : Hp} {a : Addr} {q : Str} (i : BagIs ba bs H) (h : CoK H a q) : ¬ ba.has a := fun z => by
  obtain ⟨_, h⟩ := h
  rcases z with z | ⟨c, hc, z⟩
  · rw [i.bag a z] at h; cases h
  · obtain ⟨p, h1, h2, _⟩ := i.card c hc
    rcases z with z | z
    · rw [← z, h1] at h; cases h
    · rw [← z, h2] at h; cases h
theorem dg_act {g : Gx} {K : PySem.W.Frag} {E : XK} {tb : TE} {m : Ga → M D} {ba : Mu} {B0 H0 B2 H2 : Hp} {σ : L2.St} {Γ : Ga} {bs2 : MS} {f c' : Addr} {q : Str} {i : Nat} (sX : Sta g K ba B0 H0 σ Γ bs2 B2 H2) (hco : CoK H2 c' q) (hb : DG g K E (RD K) tb m) :
    DG (gP g ba B2 H2) K E (RD K) (fun σZ HZ Q => σZ[0]? = some (some (.ref f)) ∧ CoK HZ c' q ∧ ∃ v, σZ[3]? = some (some v) ∧ tb (σ.set i (some v)) HZ Q) (actM f fun o => m (Γ.set i (.d o))) := by
  intro ba' B0' H0' σZ ΓZ bs B H s Q hn h1 h2
  obtain ⟨g1, g2, g3⟩ := s.gd
  subst g1 g2 g3
  obtain ⟨o, e0, e3, em⟩ := actM_inv hn
  obtain ⟨v0, q0, d0⟩ := s.slot 0 _ e0
  obtain ⟨v3, q3, d3⟩ := s.slot 3 _ e3
  rw [em] at hn h1 h2
  have t : Step g ba' B0' H0' B H := s.ent.toG rfl
  have hnb : ¬ ba'.has c' := sX.bag.notC hco
  refine ⟨?_, hco.keep (fun o h n => t.hh.keep c' o hnb h n), v3, join_some q3, ?_⟩
  · rw [join_some q0, den_obj d0]
  · have sY := (sX.step t s.bag).set (i := i) d3
    exact hb ba' B0 H0 _ _ bs B H sY Q hn (fun x bs' e v B' H' t' b' d' => h1 x bs' e v B' H' (t'.toG rfl) b' d') fun c bs' e B' H' t' b' => h2 c bs' e B' H' (t'.toG rfl) b'
/-! ### the callee's body -/
abbrev NR : List Str := ["call", "odds", "name", "odd"]
def cRef (Lb : Str → Option Str) (f : Addr) (mm : D → M D) : Ga → M (List D) := compM [3] (fun Γ => M.bnd ((fun Γ => rdv Γ 1) Γ) itemsK) (gN 3) (fun Γ => M.bnd (bin D.ne (errM Lb (actM f mm)) (fun Γ => rdv Γ 2) Γ) asB) (fun Γ => rdv Γ 3)
def mRef (Lb : Str → Option Str) (f : Addr) (mm : D → M D) : Ga → M Fl := retM (bin D.eq (lstOf (cRef Lb f mm)) (fun Γ => M.bnd ((fun _ => M.ret []) Γ) lstK))
/-- the name of what comes -/
def errD (Lb : Str → Option Str) (m : M D) : M D := fun b => match m b with
  | some (.ok _, b') => some (.ok (.str ""), b')
  | some (.ex c, b') => (match Lb c with
    | some l => some (.ok (.str l), b')
    | none => none)
  | none => none
/-- those that are not refused so -/
def refL (Lb : Str → Option Str) (mm : D → M D) (n : D) : List D → M (List D)
  | [] => M.ret []
  | o :: os => M.bnd (calm (M.bnd (M.bnd (errD Lb (mm o)) fun l => opt (D.ne l n)) asB)) fun k => if k = true then M.bnd (refL Lb mm n os) fun ys => M.ret (o :: ys) else refL Lb mm n os
def refD (Lb : Str → Option Str) (mm : D → M D) (os n : D) : M D := M.bnd (itemsK os) fun xs => M.bnd (lenK xs) fun xs => M.bnd (refL Lb mm n xs) fun ys => opt (D.eq (.lst ys) (.lst []))
def refK (Lb : Str → Option Str) (mm : D → M D) : List D → M D
  | [os, n] => refD Lb mm os n
  | _ => stuck
theorem comp_ref {Lb : Str → Option Str} {f : Addr} {mm : D → M D} {os n x0 : D} : ∀ xs : List D, compL (gN 3) (fun Γ => M.bnd (bin D.ne (errM Lb (actM f mm)) (fun Γ => rdv Γ 2) Γ) asB) (fun Γ => rdv Γ 3) [.d (.obj (.ref f)), .d os, .d n, .no] xs = refL Lb mm n xs
  | [] => rfl
  | x :: xs => by
    have ih := comp_ref (Lb := Lb) (f := f) (mm := mm) (os := os) (n := n) (x0 := x0) xs
    have ea : actM f mm [.d (.obj (.ref f)), .d os, .d n, .d x] = mm x := if_pos rfl
    have ee : errM Lb (actM f mm) [.d (.obj (.ref f)), .d os, .d n, .d x] = errD Lb (mm x) := by
      funext b
      unfold errM errD
      first
      | (rw [ea]; done)
      | (rw [ea]
         rcases mm x b with _ | ⟨_ | _, _⟩ <;> rfl)
    show (M.bnd (opt (some [S.d (.obj (.ref f)), .d os, .d n, .d x])) fun Γ1 => M.bnd (DL.calm (M.bnd (bin D.ne (errM Lb (actM f mm)) (fun Γ => rdv Γ 2) Γ1) asB)) fun k => if k = true then M.bnd (DL.calm (rdv Γ1 3)) fun y => M.bnd (compL _ _ _ [.d (.obj (.ref f)), .d os, .d n, .no] xs) fun ys => M.ret (y :: ys) else compL _ _ _ [.d (.obj (.ref f)), .d os, .d n, .no] xs) = _
    rw [bnd_optS, ih, bin_ap, ee]
    rfl
theorem mRef_at {Lb : Str → Option Str} {f : Addr} {mm : D → M D} {os n : D} : mRef Lb f mm (initG NR.length [.obj (.ref f), os, n]) = M.bnd (refD Lb mm os n) fun x => M.ret (.rt x) := by
  show (M.bnd (M.bnd (M.bnd (M.bnd (itemsK os) fun xs => M.bnd (lenK xs) fun xs => compL (gN 3) (fun Γ => M.bnd (bin D.ne (errM Lb (actM f mm)) (fun Γ => rdv Γ 2) Γ) asB) (fun Γ => rdv Γ 3) [.d (.obj (.ref f)), .d os, .d n, .no] xs) fun ds => M.ret (D.lst ds)) fun x => M.bnd (M.bnd (M.ret []) lstK) fun y => opt (D.eq x y)) fun x => M.ret (Fl.rt x)) = _
  have e0 : M.bnd (M.ret []) lstK = M.ret (D.lst []) := rfl
  unfold refD
  simp only [comp_ref (x0 := .non), e0, bnd_assoc, bnd_ret]
end DL

set_option Elab.async false
set_option linter.all false
set_option maxRecDepth 100000
set_option maxHeartbeats 2000000
/-! .. the combined rule. -/
namespace DL
open PySem PySem.Spec PyProof.Rows L2
/-- call(odd) in any context over the base -/
def ActOk (g1 : Gx) (P : Program) (w : World) (K : PySem.W.Frag) (mg : Str → Option Value) (base : Heap) (k : Nat) (mA : Ga → M D) : Prop :=
  ∀ (Z : Cx) (E : XK) (p1 p2 p3 : Pos), Z.prog = P → Z.w = w → Z.K = K → Z.mg = mg → Z.base = base → Z.N = NR → Vis Z.env.scope "call" → Vis Z.env.scope "odd" → Passes (L2N.CX P w) Z E → Room k Z.A → ∃ t, PD g1 E Z (.Call (.Name "call" p1) [.Name "odd" p3] [] p2) t mA
/-- what the def x(call, odds, name) is known to be -/
def OkR (g : Gx) (Lb : Str → Option Str) (P : Program) (w : World) (K : PySem.W.Frag) (mg : Str → Option Value) (base : Heap) (k : Nat) (x : Str) : Prop :=
  ∃ (gf : Addr) (pg : Arguments) (bg : List Stmt) (sg : Scope) (dV kV doc pm cdv ct oc : Value) (an od : Option Addr) (osl : Array (Option Value)),
    mg x = some (.ref gf) ∧ PySem.W.keepIn K (.ref gf) = true ∧ K.lookup gf = some ⟨oc, od, .func (PySem.W.fnOf x x pg bg sg dV kV doc pm an cdv ct), osl⟩ ∧ PySem.W.codeIn K cdv x = true ∧ L2.Binds K (PySem.W.fnOf x x pg bg sg dV kV doc pm an cdv ct) ["call", "odds", "name"] [] ∧
    FnScope NR ["call", "odds", "name"] sg ∧ ∀ (b2 : Heap), (∀ b o, base.get? b = some o → b2.get? b = some o) → ∀ (A : Around) (outer : List Env) (s : Shared) (H : Hp) (E : XK) (ba : Mu) (B2 H2 : Hp) (f : Addr) (mm : D → M D), Room (k + 2) (A.deeper (envOfC x sg s.heap.objs.size gf cdv)) →
      ActOk (gP g ba B2 H2) P w K mg b2 k (actM f mm) → ∃ t, PDSs (gP g ba B2 H2) E (cxOf (L2N.CX P w) P w K mg b2 NR x sg gf cdv A outer s H E) bg t (mRef Lb f mm)
/-- what the maker's table and the words of a lambda with one parameter are asked for -/
structure LamF1 (g : Gx) (X : Cx) (scope : Scope) (params : Arguments) (body : Expr) (lpos : Pos) (y : Str) : Prop where
  mo : MkOk g.T X lpos
  cf : CellFree X
  L : LamS1 X.env.scope scope y
  df : defaultsOf params X.env = ([], [])
  bind : ∀ (q : Str) (cl : List (Str × Addr)) (pm cv ctv u : Value), bindArgs (PySem.W.kla_fn "<lambda>" q params body scope cl pm cv ctv) ⟨[u], []⟩ = pure [(y, u)]
theorem lamF1_by {g : Gx} {X : Cx} {tf : List He.Defn} {nm : Nat → Nat → Str} {x y : Str} {scope : Scope} {params : Arguments} {body : Expr} {lpos : Pos} (hT : g.T = tabsOf X.K nm tf) (tb : TBs X.K X.mg X.base tf) (hx : (x, none) ∈ tf) (hfn : ∀ y, X.fn y = true)
    (hc : X.env.code = .ref (He.codeOf X.K (x, none)) := by rfl) (hq : nm lpos.line lpos.col = X.env.qual ++ "<lambda>" := by rfl) (hL : lamSB1 X.env.scope scope y = true := by decide +kernel) (df : defaultsOf params X.env = ([], []) := by rfl)
    (bd : ∀ (q : Str) (cl : List (Str × Addr)) (pm cv ctv u : Value), bindArgs (PySem.W.kla_fn "<lambda>" q params body scope cl pm cv ctv) ⟨[u], []⟩ = pure [(y, u)] := by intros; rfl) : LamF1 g X scope params body lpos y := by
  refine ⟨MkOk.one (by rw [hT]; exact hq) hc (tb _ hx) ?_, cellFree_def hfn, lamS1_by hL, df, bd⟩
  rw [hT]
  exact List.mem_map.mpr ⟨_, hx, rfl⟩
/-- a lambda within a lambda that the def x made -/
theorem lamF1_in {g : Gx} {X : Cx} {tf : List He.Defn} {nm : Nat → Nat → Str} {x y : Str} {scope sc0 : Scope} {params : Arguments} {body : Expr} {lpos p0 : Pos} {A : Around} {outer : List Env} {s : Shared} {H : Hp} {E : XK} {f c' : Addr} (hT : g.T = tabsOf X.K nm tf) (tb : TBs X.K X.mg X.base tf) (hx : (x, none) ∈ tf)
    (st : Still g.T X sc0 p0 outer H c') (hfn : ∀ y, X.fn y = true) (hq : nm lpos.line lpos.col = (lamX X A outer s H E sc0 f c').env.qual ++ "<lambda>" := by rfl) (hL : lamSB1 sc0 scope y = true := by decide +kernel) (df : defaultsOf params (lamX X A outer s H E sc0 f c').env = ([], []) := by rfl)
    (bd : ∀ (q : Str) (cl : List (Str × Addr)) (pm cv ctv u : Value), bindArgs (PySem.W.kla_fn "<lambda>" q params body scope cl pm cv ctv) ⟨[u], []⟩ = pure [(y, u)] := by intros; rfl) : LamF1 g (lamX X A outer s H E sc0 f c') scope params body lpos y :=
  ⟨MkOk.two (by rw [hT]; exact hq) rfl (tb _ hx) st.placed, cellFree_lam st (cellFree_def hfn), lamS1_by hL, df, bd⟩
/-- by the mirror alone -/
def tData (g : Gx) (E : XK) (K : PySem.W.Frag) (m : Ga → M D) : TE := fun σ H Q => ∃ ba B0 H0 Γ bs B, Sta g K ba B0 H0 σ Γ bs B H ∧ m Γ bs ≠ none ∧ (∀ x bs', m Γ bs = some (.ok x, bs') → ∀ v B' H', Step g ba B H B' H' → BagIs ba bs' H' → Den K ba B' x v → Q v H') ∧
  ∀ c bs', m Γ bs = some (.ex c, bs') → ∀ B' H', Step g ba B H B' H' → BagIs ba bs' H' → E (.ref (g.ca c)) none H'
def refM (Lb : Str → Option Str) (i : Nat) (m : Ga → M D) (ms : Ga → M (List D)) : Ga → M D := fun Γ => M.bnd (ms Γ) (refK Lb fun o => m (Γ.set i (.d o)))
theorem refK_inv {Lb : Str → Option Str} {mm : D → M D} {ds : List D} {bs : MS} (h : refK Lb mm ds bs ≠ none) : ∃ os n, ds = [os, n] := by
  match ds, h with
  | [os, n], _ => exact ⟨os, n, rfl⟩
  | [], h => exact absurd rfl h
  | [_], h => exact absurd rfl h
  | _ :: _ :: _ :: _, h => exact absurd rfl h
theorem wish_ref {g : Gx} {K : PySem.W.Frag} {E : XK} {ba : Mu} {B H : Hp} {Dn : Ends} {m : M D} {bs : MS} (hn : m bs ≠ none) (h1 : ∀ x bs', m bs = some (.ok x, bs') → ∀ v B' H', Step g ba B H B' H' → BagIs ba bs' H' → Den K ba B' x v → Dn.rt v H')
    (h2 : ∀ c bs', m bs = some (.ex c, bs') → ∀ B' H', Step g ba B H B' H' → BagIs ba bs' H' → E (.ref (g.ca c)) none H') : Wish (gP g ba B H) K E ba B H B Dn (M.bnd m (fun x => M.ret (Fl.rt x)) bs) := by
  cases q : m bs with
  | none => exact absurd q hn
  | some r =>
    obtain ⟨r, b1⟩ := r
    cases r with
    | ex c =>
      rw [bnd_ex q]
      exact ⟨fun z => (nomatch z), fun _ _ z => (nomatch z), fun _ _ z => (nomatch z), fun _ _ z => (nomatch z), fun _ _ z => (nomatch z), fun c' bs' z B' H' t' b' => by cases z; exact h2 c b1 q B' H' (t'.toG rfl) b'⟩
    | ok x =>
      rw [bnd_ok q]
      exact ⟨fun z => (nomatch z), fun _ _ z => (nomatch z), fun _ _ z => (nomatch z), fun _ _ z => (nomatch z), fun y bs' z v B' H' t' b' d' => by cases z; exact h1 x b1 q v B' H' (t'.toG rfl) b' d', fun _ _ z => (nomatch z)⟩
section
variable {g : Gx} {Lb : Str → Option Str} {X : Cx} {E : XK} {m : Ga → M D} {ms : Ga → M (List D)} {x y : Str} {k i : Nat} {params : Arguments} {body e1 e2 : Expr} {scope : Scope} {p lpos pos : Pos} {ta : TA}
theorem pd_ref (O : OkR g Lb X.prog X.w X.K X.mg X.base (k + 1) x) (F : LamF1 g X scope params body lpos y) (hr : Room (k + 4) X.A) (hN : X.N.Nodup) (hi : X.N[i]? = some y) (hx : Passes (L2N.CX X.prog X.w) X E)
    (hbody : ∀ (A : Around) (outer : List Env) (s : Shared) (H : Hp) (E : XK) (f c' : Addr), Room k (A.deeper (LamX.lamEnv X scope s.heap.objs.size f c')) → ∃ t, PD g E (lamX X A outer s H E scope f c') body t m) (ha : PDA g E X [e1, e2] ta ms)
    (hg : Gl X x := by rfl) (hdb : (x == ("__debug__" : Str)) = false := by decide) (hs : starEach [.Lambda params body scope lpos, e1, e2] X.env = (false, eval (.Lambda params body scope lpos) X.env) :: starEach [e1, e2] X.env := by rfl) (hpl : (backTo pos (starEach [e1, e2] X.env)).any (·.1) = false := by rfl) :
    PD g E X (.Call (.Name x p) [.Lambda params body scope lpos, e1, e2] [] pos) (tData g E X.K (refM Lb i m ms)) (refM Lb i m ms) := by
  refine ⟨⟨fun pins s σ H Q I h => ?_⟩, fun ba B0 H0 σ Γ bs B H s Q hn h1 h2 => ⟨ba, B0, H0, Γ, bs, B, s, hn, h1, h2⟩⟩
  obtain ⟨ba, B0, H0, Γ, bs, B, S, hn, h1, h2⟩ := h
  obtain ⟨gf, pg, bg, sg, dV, kV, doc, pm, cdv, ct, oc, an, od, osl, hm, hk, lk, hcg, hb, Sg, hG⟩ := O
  obtain ⟨MK, CF, L, hdef, hbind⟩ := F
  refine wpAny_Call_Name_kw (ld_glob I hg hm ?_ hdb)
  refine PySem.W.callWith_K (h₀ := X.base) I.ok.mod.kin hk ?_ hs hpl
  rw [hs]
  show wpAny _ _ (spliced ((false, eval (.Lambda params body scope lpos) X.env) :: backTo pos (starEach [e1, e2] X.env))) _ _ s
  refine Calls.spliced_cons (lam_makeM I MK S.tab hdef (L.has I.ok) fun f c' pm' ctv H1 s' I1 eN dm T1 hf hfn1 hfr hco => ?_)
  have t1 : Step g ba B H B H1 := Step.table S.sub eN dm T1
  have i1 := S.bag.table eN
  have S1 := S.step t1 i1
  have fne : f ≠ X.env.locals := fun z => by
    obtain ⟨m', ⟨o', es, ep, ho', hd', _⟩, _⟩ := I1.loc
    rw [← z, hf] at ho'
    cases ho'
    cases hd'
  have fnf : f ∉ X.fs := fun z => hfr (by
    rcases I1.ok.stk with e | ⟨e, hfm⟩
    · rw [e]; exact z
    · rw [e]
      unfold frs
      rw [List.filterMap_cons, hfm]
      exact List.mem_cons_of_mem _ z)
  have I1p : Inv X ((f, PySem.W.kla_obj "<lambda>" (X.env.qual ++ "<lambda>") params body scope (cloFrom X.env.cells scope.names []) pm' c' ctv) :: pins) σ H1 s' := I1.pins_of fun q hq => by
    rcases List.mem_cons.mp hq with e | hq
    · rw [e]
      exact ⟨hf, hfn1, fne, fnf, fun v z => by cases z⟩
    · exact I1.pin q (List.mem_append_right _ hq)
  refine thn (ha.pe.run pos _ s' σ H1 (fun vs H2 => ∃ ds bs2 B2, ms Γ bs = some (.ok ds, bs2) ∧ Step g ba B H1 B2 H2 ∧ BagIs ba bs2 H2 ∧ Dens X.K ba B2 ds vs) I1p ?_) fun us s2 ⟨vs, H2, I2, r, ds, bs2, B2, em, t2, i2, dd⟩ => ?_
  · exact ha.de ba B0 H0 σ Γ bs B H1 S1 _ (fun z => hn (bnd_none z)) (fun ds bs2 e vs B2 H2 t2 i2 dd => ⟨ds, bs2, B2, e, t2, i2, dd⟩) fun c bs2 e B2 H2 t2 i2 => h2 c bs2 (bnd_ex e) B2 H2 (t1.trans i1 t2) i2
  · have e0 : refM Lb i m ms Γ bs = refK Lb (fun o => m (Γ.set i (.d o))) ds bs2 := bnd_ok em
    rw [e0] at hn h1 h2
    obtain ⟨os, n, rfl⟩ := refK_inv hn
    have S2 := S1.step t2 i2
    have pf := I2.pin (f, PySem.W.kla_obj "<lambda>" (X.env.qual ++ "<lambda>") params body scope (cloFrom X.env.cells scope.names []) pm' c' ctv) (List.mem_append_right _ List.mem_cons_self)
    have hnb : ¬ ba.has c' := i1.notC hco
    have hco2 : CoK H2 c' (X.env.qual ++ "<lambda>") := hco.keep (fun o h n => t2.hh.keep c' o hnb h n)
    refine ⟨I2.kIn, ?_⟩
    have hlv : vs.length = 2 := dd.length
    have hlu : us.length = 2 := r.length.symm.trans hlv
    match vs, hlv, us, hlu, r, dd with
    | [v1, v2], _, [u1, u2], _, r, dd =>
      have I2' : Inv X pins σ H2 s2 := I2.pins_of fun q hq => I2.pin q (List.mem_append_right _ (List.mem_cons_of_mem _ hq))
      have rc : codeAny (model X.prog X.w) X.A (.call (.ref gf) ⟨[.ref f, u1, u2], []⟩) (CR (L2N.CX X.prog X.w) X.stack X.prog X.w H2 s2 Q E) s2 := by
        refine LamX.run_ofS (base := baseOf X s2 H2) (N := NR) (ps := ["call", "odds", "name"]) (us := [.ref f, u1, u2]) (vs := [.ref f, v1, v2]) lk hcg Sg hr (env0_up I2') (hb s2 [.ref f, u1, u2] I2.kIn rfl) (.cons rfl r) rfl fun hr' => ?_
        let tU : XK → TE := fun E σ H Q => ∀ (A : Around) (outer : List Env) (s0 : Shared) (H0 : Hp) (hr : Room k (A.deeper (LamX.lamEnv X scope s0.heap.objs.size f c'))), (hbody A outer s0 H0 E f c' hr).choose σ H Q
        have act : ActOk (gP g ba B2 H2) X.prog X.w X.K X.mg (baseOf X s2 H2) (k + 1) (actM f fun o => m (Γ.set i (.d o))) := fun Z E' p1 p2 p3 z1 z2 z3 z4 z5 z6 v1 v2 hxZ hrZ => by
          refine ⟨_, pe_act1 (i := i) (j := 0) (iz := 3) (tb := tU E') I2' (CF _ _ _ _ I2') hN hi L pf.1 pf.2.1 hfr (fun u => hbind _ _ _ _ _ u) z1 z2 z3 z4 z5 hxZ hrZ (fun A outer s H hr => ⟨fun pins s' σ H' Q I h => (hbody A outer s H E' f c' hr).choose_spec.pe.run pins s' σ H' Q I (h A outer s H hr)⟩) (by rw [z6]; rfl) v1 (by rw [z6]; rfl) v2 rfl rfl rfl rfl, ?_⟩
          rw [z3]
          exact dg_act S2 hco2 fun ba B0 H0 σ Γ bs B H s Q hn h1 h2 A outer s0 H00 hr => (hbody A outer s0 H00 E' f c' hr).choose_spec.de ba B0 H0 σ Γ bs B H s Q hn h1 h2
        obtain ⟨t, ht⟩ := hG (baseOf X s2 H2) (base_le I2') X.A X.stack s2 H2 E ba B2 H2 f (fun o => m (Γ.set i (.d o))) hr' act
        have d3 : Dens X.K ba B2 [.obj (.ref f), os, n] [.ref f, v1, v2] := dens_cons den_obj' dd
        refine ⟨t, ht.pe, ht.de ba B2 H2 (start NR [.ref f, v1, v2]) (initG NR.length [.obj (.ref f), os, n]) bs2 B2 H2 _ (sta_init (show 3 ≤ 4 by decide) ⟨rfl, rfl, rfl⟩ ⟨S2.tab, S2.cst⟩ S2.sub S2.off i2 d3) ?_⟩
        rw [mRef_at]
        exact wish_ref (g := g) hn (fun x bs' e v B' H' t' b' d' => h1 x bs' e v B' H' ((t1.trans i1 t2).trans i2 t') b' d') fun c bs' e B' H' t' b' => h2 c bs' e B' H' ((t1.trans i1 t2).trans i2 t') b'
      show wpAny _ _ (call (.ref gf) [.ref f, u1, u2]) _ _ _
      refine wpAny_call (codeAny_mono rc fun r s3 hq => ?_)
      cases r with
      | error e => exact hx pins σ H2 s2 e s3 I2' hq
      | ok fl =>
        cases fl with
        | ret u => exact I2'.after hq
        | next => exact False.elim hq
        | brk => exact False.elim hq
        | cont => exact False.elim hq
end
end DL

set_option Elab.async false
set_option linter.all false
set_option maxRecDepth 100000
set_option maxHeartbeats 1000000
/-! xs[::-1], a list or a tuple; what is never reached. -/
namespace HT
open PySem PySem.Spec PyProof.Rows
section
variable {prog : Program} {w : World} {A : Around} {E : Value → Shared → Prop} {s : Shared}
theorem adjust_rev (n : Nat) : Builtin.Slice.sliceAdjust none none (-1) (n : Int) = ((n : Int) - 1, -1) := by
  unfold Builtin.Slice.sliceAdjust
  have h1 : ((-1 : Int) < 0) := by omega
  simp only [h1, if_true]
theorem places_rev (n : Nat) : Builtin.Slice.slicePlaces ((n : Int) - 1) (-1) (-1) = n := by
  unfold Builtin.Slice.slicePlaces
  have h1 : ¬ (-1 : Int) > 0 := by omega
  have h2 : (-(-1) : Int) = 1 := by decide
  simp only [h1, if_false, h2, Int.ediv_one]
  split <;> omega
theorem sliceApplied_rev {sl : Addr} {vl vu vs : Value} {n : Nat} {Q : Int × Int × Nat → Shared → Prop} (hs : s.heap.IsSliceOf sl vl vu vs) (pl : IsPart vl none) (pu : IsPart vu none) (ps : IsPart vs (some (-1)))
    (h : Q ((n : Int) - 1, -1, n) s) : wpAny (model prog w) A (Builtin.Slice.sliceApplied (.ref sl) (pure (n : Int))) Q E s := by
  obtain ⟨os, hos, hcs, hds⟩ := id hs
  unfold Builtin.Slice.sliceApplied Builtin.Slice.sliceFields
  refine wpAny_bind (wpAny_bind (wpAny_field hos hds (x := vl) rfl (wpAny_bind (wpAny_field hos hds (x := vu) rfl (wpAny_bind (wpAny_field hos hds (x := vs) rfl (wpAny_pure ?_)))))))
  refine wpAny_bind (slicePart_ ps ?_)
  show wpAny _ _ (if ((-1 : Int) == 0) = true then _ else _) _ _ s
  rw [if_neg (by decide)]
  refine wpAny_bind (slicePart_ pl (wpAny_bind (slicePart_ pu (wpAny_bind (wpAny_pure ?_)))))
  show wpAny _ _ (match Builtin.Slice.sliceAdjust none none (-1) (n : Int) with | (lo, hi) => pure (lo, (-1 : Int), Builtin.Slice.slicePlaces lo hi (-1))) _ _ s
  rw [adjust_rev n]
  show wpAny _ _ (pure ((n : Int) - 1, (-1 : Int), Builtin.Slice.slicePlaces ((n : Int) - 1) (-1) (-1))) _ _ s
  rw [places_rev]
  exact wpAny_pure h
theorem fm_congr {α β : Type} {f g : α → Option β} : ∀ {l : List α}, (∀ a ∈ l, f a = g a) → l.filterMap f = l.filterMap g
  | [], _ => rfl
  | a :: l, h => by
    rw [List.filterMap_cons, List.filterMap_cons, h a List.mem_cons_self, fm_congr (fun b hb => h b (List.mem_cons_of_mem _ hb))]
theorem fm_self : ∀ l : List Value, (List.range l.length).filterMap (fun m => l[m]?) = l
  | [] => rfl
  | x :: l => by
    rw [List.length_cons, List.range_succ_eq_map, List.filterMap_cons]
    show x :: (List.filterMap (fun m => (x :: l)[m]?) (List.map Nat.succ (List.range l.length))) = _
    rw [List.filterMap_map]
    exact congrArg (x :: ·) (fm_self l)
theorem pick_rev (xs : Array Value) : ((List.range xs.size).filterMap fun (m : Nat) => xs[(((xs.size : Int) - 1) + (m : Int) * (-1)).toNat]?).toArray = xs.toList.reverse.toArray := by
  have e : (List.range xs.size).filterMap (fun (m : Nat) => xs[(((xs.size : Int) - 1) + (m : Int) * (-1)).toNat]?) = (List.range xs.size).filterMap (fun (m : Nat) => xs.toList.reverse[m]?) := by
    refine fm_congr fun m hm => ?_
    have hlt : m < xs.size := List.mem_range.mp hm
    rw [List.getElem?_reverse (by simpa using hlt), Array.length_toList, Array.getElem?_toList]
    congr 1
    omega
  have e3 := fm_self xs.toList.reverse
  rw [List.length_reverse, Array.length_toList] at e3
  rw [e, e3]
theorem getItem_tuple_rev {t sl : Addr} {items : Array Value} {vl vu vs : Value} {Q : Value → Shared → Prop} (ht : IsTup s.heap t items) (hs : s.heap.IsSliceOf sl vl vu vs) (pl : IsPart vl none) (pu : IsPart vu none) (ps : IsPart vs (some (-1)))
    (h : Q (.ref s.heap.objs.size) { s with heap := s.heap.push { cls := .type "tuple", data := .seq items.toList.reverse.toArray } })
    (hsz : items.size ≤ sizeLine) : wpAny (model prog w) A (getItem (.ref t) (.ref sl)) Q E s := by
  have htake : sizeOk (.seq items.toList.reverse.toArray) := by
    show items.toList.reverse.toArray.size ≤ sizeLine
    rw [List.size_toArray, List.length_reverse, Array.length_toList]
    exact hsz
  obtain ⟨os, hos, hcs, hds⟩ := id hs
  have hTs : s.TypeIs (.ref sl) "slice" := ⟨os, hos, hcs⟩
  unfold getItem
  try with_reducible refine wpAny_holding ?_
  first | refine wpAny_bind (wpAny_pure ?_) | skip
  refine wpAny_bind (wpAny_sequenceKey ht.typeIs (by decide) ?_)
  refine wpAny_bind (wpAny_callSpecial?_slot (name := Str.ofString "__getitem__") ht.typeIs PyProof.Rows.slot_tuple_getitem
    (wpAny_call_entry PyProof.Rows.slot_tuple_getitem ht.typeIs entry_tuple_getitem ?_ (args_tuple_getitem _ _)))
  show wpAny _ _ (Builtin.Tuple.tupleItemsOf (.ref t) >>= _) _ _ s
  refine wpAny_bind (tupleItemsOf_ ht ?_)
  refine wpAny_bind (wpAny_typeOf hTs ?_)
  rw [if_pos (by decide)]
  refine wpAny_bind (sliceApplied_rev hs pl pu ps ?_)
  have hno : ¬ ((((items.size : Int) - 1) == 0 && (-1 : Int) == 1 && items.size == items.size) = true) := by
    intro q
    rw [Bool.and_eq_true, Bool.and_eq_true] at q
    exact absurd q.1.2 (by decide)
  show wpAny _ _ (if (((items.size : Int) - 1) == 0 && (-1 : Int) == 1 && items.size == items.size) = true then _ else _) _ _ s
  rw [if_neg hno, pick_rev]
  first
    | exact wpAny_bind (m := Builtin.Tuple.tupleExact _) (wpAny_newObj_type (wpAny_pure ⟨_, rfl, wpAny_pure h⟩) htake)
    | exact wpAny_bind (m := Builtin.Tuple.tupleExact _) (wpAny_newObj_type (wpAny_bind (wpAny_pure (wpAny_pure ⟨_, rfl, wpAny_pure h⟩))) htake)
    | exact wpAny_bind (wpAny_bind (m := Builtin.Tuple.tupleExact _) (wpAny_newObj_type (wpAny_pure (wpAny_pure ⟨_, rfl, wpAny_pure h⟩)) htake))
    | exact wpAny_bind (wpAny_bind (m := Builtin.Tuple.tupleExact _) (wpAny_newObj_type (wpAny_pure ⟨_, rfl, wpAny_pure h⟩) htake))
end
end HT
namespace DL
open PySem PySem.Spec PyProof.Rows L2
section
variable {g : Gx} {E : XK} {X : Cx} {K : PySem.W.Frag}
def tRevT (K : PySem.W.Frag) (te : TE) : TE := fun σ H Q => te σ H fun x H1 => (∃ a xs, x = .ref a ∧ SqT K H1 a xs ∧ ∀ p, H1 p = none → Q (.ref p) (upd H1 p (.tup xs.reverse)))
theorem pe_revT {e : Expr} {te : TE} {k : Nat} {p1 p2 p3 pos : Pos} (he : PE X e te) : PE X (.Subscript e (.Slice none none (some (.UnaryOp .USub (.Constant (.int 1) k p1) p2)) p3) pos) (tRevT X.K te) := by
  refine ⟨fun pins s σ H Q I h => ?_⟩
  refine Subscript_ (thn (he.run pins s σ H _ I h) fun v s1 ⟨x, H1, I1, r1, q1⟩ => ?_)
  obtain ⟨a, xs, ex, hx, q⟩ := q1
  subst ex
  cases r1
  have hst : PO X (some (.UnaryOp .USub (.Constant (.int 1) k p1) p2)) (tPart (tUn (rU fun i => .int (-i)) (tC (.int 1)))) := po_some (pe_un un_neg pe_int)
  refine wpAny_Slice (thn (po_none.run pins s1 σ H1 (fun o H2 => o = none ∧ H2 = H1) I1 ⟨rfl, rfl⟩) fun vl s2 ⟨l, H2, I2, pl, el, e2⟩ => ?_)
  subst el e2
  refine thn (po_none.run pins s2 σ H2 (fun o H3 => o = none ∧ H3 = H2) I2 ⟨rfl, rfl⟩) fun vu s3 ⟨u, H3, I3, pu, eu, e3⟩ => ?_
  subst eu e3
  refine thn (hst.run pins s3 σ H3 (fun o H4 => o = some (-1) ∧ H4 = H3) I3 ⟨1, rfl, -1, rfl, rfl, rfl⟩) fun vs s4 ⟨o, H4, I4, ps, eo, e4⟩ => ?_
  subst eo e4
  have I5 : Inv X pins σ H4 { s4 with heap := s4.heap.push { cls := .type "slice", data := .fields #[vl, vu, vs] } } := I4.kept (t' := s4.toks) fun b ob q => Heap.get?_push_of_some _ q
  obtain ⟨its, r, ht, hz⟩ := I5.tuple hx
  have hlen := r.length
  show wpAny (model X.prog X.w) X.A (subscriptTail e (.Slice none none (some (.UnaryOp .USub (.Constant (.int 1) k p1) p2)) p3) (.ref a) (.ref s4.heap.objs.size)) (EP X pins σ Q) X.xe { s4 with heap := s4.heap.push { cls := .type "slice", data := .fields #[vl, vu, vs] } }
  refine tail_any (ops := [.ref a, .ref s4.heap.objs.size]) ht.typeIs (PyProof.Rows.slot_tuple_getitem.lookup) ?_ (by with_unfolding_all rfl)
  refine HT.getItem_tuple_rev ht (Heap.IsSliceOf.new _ vl vu vs) pl pu ps ?_ (by rw [List.size_toArray]; omega)
  refine ⟨.ref _, _, I5.laid (t' := s4.toks) (o := .tup xs.reverse) (fun b ob q => Heap.get?_push_of_some _ q) (Nat.le_refl _) ?_, rfl, q _ (I5.hok.fresh (Nat.le_refl _))⟩
  exact ⟨by rw [List.length_reverse]; exact hz, _, r.reverse, ⟨_, Heap.get?_push_size _ rfl, rfl, _, rfl⟩⟩
def D.revT : D → Option D
  | .tup ds => some (.tup ds.reverse)
  | _ => none
theorem pd_revT {e : Expr} {te : TE} {m : Ga → M D} {k : Nat} {p1 p2 p3 pos : Pos} (a : PB g E X e te m) : PD g E X (.Subscript e (.Slice none none (some (.UnaryOp .USub (.Constant (.int 1) k p1) p2)) p3) pos) (tRevT X.K te) (un1 D.revT m) := by
  refine ⟨pe_revT a.pe, fun ba B0 H0 σ Γ bs B H s Q hn h1 h2 => ?_⟩
  refine (a.de ba B0 H0 σ Γ bs B H s).bnd (f := fun x => opt (D.revT x)) hn h2 fun x b1 e1 e1' n1 v B1 H1 t1 i1 d1 x1 => ?_
  have s1 := s.step t1 i1
  obtain ⟨z, hz, ho⟩ := opt_some n1
  cases x with
  | tup ds =>
    cases (show some (D.tup ds.reverse) = some z from hz)
    obtain ⟨p, vs, rfl, hp, hd⟩ := DenT.tup s1.sub s1.off d1
    refine ⟨p, vs, rfl, hp, fun q hq => ?_⟩
    have t2 : Step g ba B1 H1 (upd B1 q (.tup vs.reverse)) (upd H1 q (.tup vs.reverse)) := Step.new s1.sub hq
    exact h1 _ b1 (e1'.trans ho) _ _ _ (t1.trans i1 t2) (i1.new hq) (den_tup' (SqT.of upd_same) (Dens.mono t2.bb s1.off _ _ (dens_rev hd)))
  | _ => exact nomatch (show none = some z from hz)
/-! ### what the mirror never reaches -/
theorem pd_no {e : Expr} : PD g E X e (fun _ _ _ => False) (fun _ => stuck) := ⟨⟨fun _ _ _ _ _ _ z => z.elim⟩, fun _ _ _ _ _ _ _ _ _ _ hn _ _ => absurd rfl hn⟩
end
end DL

set_option Elab.async false
set_option linter.all false
set_option maxRecDepth 100000
set_option maxHeartbeats 1000000
/-! The def that calls what it got from within a lambda, by its text; a def that calls itself. -/
namespace DL
open PySem PySem.Spec PyProof.Rows L2
section
variable {g : Gx} {Lb : Str → Option Str} {P : Program} {w : World} {K : PySem.W.Frag} {mg : Str → Option Value} {base : Heap}
theorem okR_of {x : Str} {st : Stmt} {k : Nat} (F : DefF K mg x st) (S : FnScope NR ["call", "odds", "name"] (defScope st))
    (hb : ∀ (kV doc pm : Value) (an : Option Addr) (cdv ct : Value) (us : List Value), us.length = (["call", "odds", "name"] : List Str).length → bindArgs (PySem.W.fnOf x x (defArgs st) (defBody st) (defScope st) .none kV doc pm an cdv ct) ⟨us, []⟩ = pure ((["call", "odds", "name"] : List Str).zip us))
    (hbody : ∀ (b2 : Heap), (∀ b o, base.get? b = some o → b2.get? b = some o) → ∀ (A : Around) (outer : List Env) (s : Shared) (H : Hp) (E : XK) (ba : Mu) (B2 H2 : Hp) (f : Addr) (mm : D → M D), Room (k + 2) (A.deeper (envOfC x (defScope st) s.heap.objs.size (He.ga K x) (.ref (He.codeOf K (x, none))))) →
      ActOk (gP g ba B2 H2) P w K mg b2 k (actM f mm) → ∃ t, PDSs (gP g ba B2 H2) E (cxOf (L2N.CX P w) P w K mg b2 NR x (defScope st) (He.ga K x) (.ref (He.codeOf K (x, none))) A outer s H E) (defBody st) t (mRef Lb f mm)) :
    OkR g Lb P w K mg base k x := by
  obtain ⟨fd, F, hm⟩ := F
  obtain ⟨oc, od, dV, kV, doc, pm, an, cdv, ct, osl, e, lk, hcd, hdv, hkv⟩ := F.ex
  have hdn : dV = .none := by
    rcases hdv with ⟨_, h⟩ | ⟨h, _⟩
    · exact h
    · exact absurd rfl h
  subst hdn
  obtain ⟨c, rfl⟩ := He.codeIn_ref hcd
  have ec : He.codeOf K (x, none) = c := He.codeOf_eq (p := (x, none)) (fd := fd) lk (by rw [e])
  have F' : Fun K x x st (He.ga K x) fd := ⟨⟨oc, od, kV, doc, pm, an, .ref c, ct, osl, e, lk, hcd⟩, F.kp⟩
  have Bn := F'.binds hb
  rw [e] at lk Bn
  refine ⟨He.ga K x, defArgs st, defBody st, defScope st, .none, kV, doc, pm, .ref c, ct, oc, an, od, osl, hm, F.kp, lk, hcd, Bn, S, fun b2 hle A outer s H E ba B2 H2 f mm hr act => ?_⟩
  rw [ec] at hbody
  exact hbody b2 hle A outer s H E ba B2 H2 f mm hr act
/-- a call of the def itself, one level less -/
def RecOk (g : Gx) (P : Program) (w : World) (K : PySem.W.Frag) (mg : Str → Option Value) (base : Heap) (k : Nat) (x : Str) (rc : (Ga → M (List D)) → Ga → M D) : Prop :=
  ∀ (X : Cx) (E : XK) (p pos : Pos) (e : Expr) (es : List Expr) (ta : TA) (ms : Ga → M (List D)), X.prog = P → X.w = w → X.K = K → X.mg = mg → X.base = base → Gl X x → Room k X.A → Passes (L2N.CX X.prog X.w) X E → PDA g E X (e :: es) ta ms →
    starEach (e :: es) X.env = (false, eval e X.env) :: starEach es X.env → (backTo pos (starEach es X.env)).any (·.1) = false → ∃ t, PD g E X (.Call (.Name x p) (e :: es) [] pos) t (rc ms)
theorem rec_no {k : Nat} {x : Str} : RecOk g P w K mg base k x (fun _ _ => stuck) := fun _ _ _ _ _ _ _ _ _ _ _ _ _ _ _ _ _ _ _ => ⟨_, pd_no⟩
theorem rec_of {k k0 : Nat} {x : Str} {ps : List Str} {f : List D → M D} (F : OkF g P w K mg base k0 x ps f) (hk : k0 ≤ k) (hdb : (x == ("__debug__" : Str)) = false := by decide) : RecOk g P w K mg base k x (fun ms Γ => M.bnd (ms Γ) (callK ps.length f)) := by
  intro X E p pos e es ta ms z1 z2 z3 z4 z5 hg hr hx ha he hpl
  subst z1 z2 z3 z4 z5
  exact ⟨_, pd_f F hr hk hx ha hg hdb he hpl⟩
theorem pd_rec {X : Cx} {E : XK} {k : Nat} {x : Str} {p pos : Pos} {e : Expr} {es : List Expr} {ta : TA} {ms : Ga → M (List D)} {te : TE} {rc : (Ga → M (List D)) → Ga → M D} (hR : RecOk g X.prog X.w X.K X.mg X.base k x rc) (hr : Room k X.A) (hx : Passes (L2N.CX X.prog X.w) X E) (ha : PDA g E X (e :: es) ta ms)
    (hg : Gl X x := by rfl) (he : starEach (e :: es) X.env = (false, eval e X.env) :: starEach es X.env := by rfl) (hpl : (backTo pos (starEach es X.env)).any (·.1) = false := by rfl) (et : te = Classical.choose (hR X E p pos e es ta ms rfl rfl rfl rfl rfl hg hr hx ha he hpl) := by rfl) :
    PD g E X (.Call (.Name x p) (e :: es) [] pos) te (rc ms) := by
  subst et
  exact Classical.choose_spec (hR X E p pos e es ta ms rfl rfl rfl rfl rfl hg hr hx ha he hpl)
end
end DL

set_option Elab.async false
set_option linter.all false
set_option maxRecDepth 100000
set_option maxHeartbeats 1000000
/-! sorted(set(list of small ints)). -/
namespace DLQ
open PySem PySem.Spec PyProof.Rows L2
/-- a set as it is made -/
abbrev newS (w : World) : Obj := { cls := .type "set", dict := none, data := .set #[] 0 (.fresh 0 0 (!w.params.followText "set-order")) }
/-- what set(l) promises -/
def Made (w : World) (s : Shared) (ns : List Int) (h' : Heap) (c : Nat) : Prop := SetR w h' s.heap.objs.size (fun j => decide (j ∈ ns)) c ∧ ∀ b o, s.heap.get? b = some o → h'.get? b = some o
section
variable {P : Program} {w : World} {A : Around} {E : Value → Shared → Prop} {s : Shared}
theorem ints_get {items : Array Value} {ns : List Int} (hi : IntsAre items.toList ns) (e : items.size = ns.length) (i : Nat) (v : Value) (hv : items[i]? = some v) : ∃ k t, ns[i]? = some k ∧ v = .int k t := by
  have hlt : i < ns.length := by rw [← e]; exact (Array.getElem?_eq_some_iff.mp hv).1
  obtain ⟨t, q⟩ := PyProof.Rows.IntsAre.int_at hi i v (by rw [Array.getElem?_toList]; exact hv)
  exact ⟨ns[i], t, List.getElem?_eq_getElem hlt, by rw [q, List.getD_eq_getElem?_getD, List.getElem?_eq_getElem hlt]; rfl⟩
/-- set.__init__ of a list of ints -/
theorem init_list {l : Addr} {items : Array Value} {ns : List Int} {Q : PySem.Fin → Shared → Prop} (hh : A.handled = none) (hl : s.heap.IsList l items) (hit : IntsAre items.toList ns) (hb : ns.length + 1 < scanBound)
    (h : ∀ h' tk c, Made w s ns h' c → Q (.done (.ret .none)) { s with heap := h', toks := tk }) : wpAny (model P w) A (Builtin.«set.__init__» ⟨[.ref s.heap.objs.size, .ref l], []⟩) Q E { s with heap := s.heap.push (newS w) } := by
  have es : items.size = ns.length := by have q := IntsAre.length hit; rwa [Array.length_toList] at q
  have hS : (s.heap.push (newS w)).get? s.heap.objs.size = some (newS w) := Heap.get?_push_size _ rfl
  have hT : Shared.TypeIs { s with heap := s.heap.push (newS w) } (.ref s.heap.objs.size) "set" := ⟨_, hS, rfl⟩
  obtain ⟨⟨oc, od, odt, osl⟩, hol, rfl, nl, rfl⟩ := hl
  have ho2 : (s.heap.push (newS w)).get? l = some { cls := .type "list", dict := od, data := .seq items nl, slots := osl } := Heap.get?_push_of_some _ hol
  have hsub := sub_set_self
  have g1 := F.sub_list_set
  have g2 := F.sub_list_frozenset
  have g3 : (Value.type "list" == Value.type "dict") = false := by decide
  have hl1 : (s.heap.push (newS w)).IsList l items := ⟨_, ho2, rfl, nl, rfl⟩
  have lS : l < s.heap.objs.size := Heap.lt_size hol
  unfold Builtin.«set.__init__» noKeywords Builtin.Frozenset.updateFrom
  generalize hPI : pyIter = PI
  wp_walk
  subst hPI
  refine wpAny_pyIter_list hl1 ?_
  refine wpAny_bind (wpAny_runValue ?_)
  have z1 : (s.heap.push (newS w)).objs.size = s.heap.objs.size + 1 := Heap.size_push ..
  have nI : l ≠ (s.heap.push (newS w)).objs.size := by rw [z1]; exact Nat.ne_of_lt (Nat.lt_succ_of_lt lS)
  have nS : s.heap.objs.size ∉ [(s.heap.push (newS w)).objs.size, l] := by
    rw [z1]
    intro z
    rcases List.mem_cons.mp z with z | z
    · exact Nat.ne_of_lt (Nat.lt_succ_self _) z
    · exact Nat.ne_of_gt lS (List.mem_singleton.mp z)
  refine set_update_ints ((Walks.list (by simp [hh]) _ l nI items).toS) s.heap.objs.size nS ns es hb (ints_get hit es) (items.size - 0) 0 _ (by omega) (Nat.zero_le _) ⟨⟨_, Heap.get?_push_size _ rfl, rfl, rfl⟩, hl1.push _⟩
    ⟨0, Nat.le_refl 0, setR_new_at (Heap.get?_push_of_some _ hS)⟩ fun s' c hm hc hS' => ?_
  obtain ⟨h2, g', d', tk', os'⟩ := s'
  have q1 : g' = s.gens := hm.gens
  have q2 : d' = s.drawn := hm.drawn
  have q3 : os' = s.os := hm.os
  subst q1 q2 q3
  show wpAny _ _ _ _ _ _
  refine wpAny_pure ?_
  show wpAny _ _ (ret Value.none) _ _ _
  refine wpAny_pure (h h2 tk' c ⟨hS', fun b o e => ?_⟩)
  have b0 : b < s.heap.objs.size := Heap.lt_size e
  refine hm.heap b o ?_ (Heap.get?_push_of_some _ (Heap.get?_push_of_some _ e))
  rw [z1]
  intro z
  rcases List.mem_cons.mp z with z | z
  · exact Nat.ne_of_lt b0 z
  · exact Nat.ne_of_lt (Nat.lt_succ_of_lt b0) (List.mem_singleton.mp z)
set_option maxHeartbeats 3200000 in
theorem set_listI {l : Addr} {items : Array Value} {ns : List Int} {Q : Value → Shared → Prop} (hh : A.handled = none) (hl : s.heap.IsList l items) (hit : IntsAre items.toList ns) (hb : ns.length + 1 < scanBound)
    (h : ∀ h' tk c, Made w s ns h' c → Q (.ref s.heap.objs.size) { s with heap := h', toks := tk }) : wpAny (model P w) A (call (.type "set") [.ref l]) Q E s := by
  obtain ⟨c, tl, hmro⟩ := F.called_set.mro
  have hmade := F.called_set.made
  have hsub := F.called_set.sub
  refine wpAny_call (codeAny_of_tree ?_)
  show wpAny _ _ (callAny (.type "set") _) _ _ _
  refine wpAny_pure ⟨Code.quiet_builtin _ (by decide +kernel), codeAny_builtin F.entry_type_call ?_⟩
  rw [Around.under_plain (weight_type_call_type "set" [.ref l] []) rfl]
  have h1 := F.called_set.notType
  have h2 := F.called_set.canCreate
  have hct := F.typeCall_set_1 (.ref l)
  repeat (any_goals (first | assumption | wp_step))
  refine codeAny_mono (code_set_led1 (.ref l) (E := E) (Q₁ := fun v t => v = .ref s.heap.objs.size ∧ t = { s with heap := s.heap.push (newS w) }) ⟨rfl, rfl⟩) fun r t hr => ?_
  cases r with
  | error e => exact hr
  | ok fl =>
    cases fl with
    | ret v =>
      obtain ⟨rfl, rfl⟩ := hr
      have hS : (s.heap.push (newS w)).get? s.heap.objs.size = some (newS w) := Heap.get?_push_size _ rfl
      have hT : Shared.TypeIs { s with heap := s.heap.push (newS w) } (.ref s.heap.objs.size) "set" := ⟨_, hS, rfl⟩
      have hli := F.called_set.init.lookup
      have hbi := F.called_set.init.bind (.ref s.heap.objs.size)
      repeat (any_goals (first | assumption | wp_step))
      refine codeAny_mono (codeAny_call_builtin (R := wants (fun v t => v = .none ∧ ∃ h' tk c, t = { s with heap := h', toks := tk } ∧ Made w s ns h' c) E) F.called_set.init.plain F.entry_set_init (check_set_init_1 hT ?_)) fun r2 t2 hr2 => ?_
      · exact init_list (by simpa using hh) hl hit hb fun h' tk c m => ⟨rfl, h', tk, c, rfl, m⟩
      · cases r2 with
        | error e => exact hr2
        | ok fl2 =>
          cases fl2 with
          | ret v =>
            obtain ⟨rfl, h', tk, c', rfl, m⟩ := hr2
            repeat (any_goals (first | assumption | wp_step))
            exact h _ _ _ m
          | _ => exact hr2.elim
    | _ => exact hr.elim
end
theorem few_of : ∀ {l m : List Int}, l.Nodup → (∀ k ∈ l, k ∈ m) → l.length ≤ m.length
  | [], _, _, _ => Nat.zero_le _
  | x :: l, m, nd, h => by
    obtain ⟨n1, n2⟩ := List.nodup_cons.mp nd
    have hx := h x List.mem_cons_self
    have := few_of (m := m.erase x) n2 fun k hk => (List.mem_erase_of_ne (fun e => n1 (by rw [← e]; exact hk))).mpr (h k (List.mem_cons_of_mem _ hk))
    rw [List.length_erase_of_mem hx] at this
    have := List.length_pos_of_mem hx
    rw [List.length_cons]
    omega
theorem up_ext : ∀ {l m : List Int}, l.Pairwise (· < ·) → m.Pairwise (· < ·) → (∀ k, k ∈ l ↔ k ∈ m) → l = m
  | [], [], _, _, _ => rfl
  | [], y :: m, _, _, h => by have := (h y).mpr List.mem_cons_self; cases this
  | x :: l, [], _, _, h => by have := (h x).mp List.mem_cons_self; cases this
  | x :: l, y :: m, a, b, h => by
    obtain ⟨a1, a2⟩ := List.pairwise_cons.mp a
    obtain ⟨b1, b2⟩ := List.pairwise_cons.mp b
    have e : x = y := by
      rcases List.mem_cons.mp ((h x).mp List.mem_cons_self) with e | e
      · exact e
      · rcases List.mem_cons.mp ((h y).mpr List.mem_cons_self) with e2 | e2
        · exact e2.symm
        · have := a1 y e2; have := b1 x e; omega
    subst e
    rw [up_ext a2 b2 fun k => ?_]
    constructor
    · intro hk
      rcases List.mem_cons.mp ((h k).mp (List.mem_cons_of_mem _ hk)) with e | e
      · have := a1 k hk; omega
      · exact e
    · intro hk
      rcases List.mem_cons.mp ((h k).mpr (List.mem_cons_of_mem _ hk)) with e | e
      · have := b1 k hk; omega
      · exact e
end DLQ
namespace DL
open PySem PySem.Spec PyProof.Rows L2
/-- set(l), l a list of ints -/
def rSetOfI (K : PySem.W.Frag) (w : World) : List V → Hp → VK → Prop := fun xs H Q => ∃ (l : Addr) (ns : List Int), xs = [.ref l] ∧ SqL K H l (ns.map V.int) ∧ ns.length ≤ 1000 ∧
  ∀ p c, H p = none → (∀ m : List Int, (∀ k ∈ ns, k ∈ m) → c ≤ m.length) → Q (.ref p) (upd H p (SetO w p (fun j => decide (j ∈ ns)) c))
theorem cr_setOfI {X : Cx} (hc : X.calm = true) : CallR X (.type "set") (rSetOfI X.K X.w) := by
  intro pins s σ H vs us Q I r h
  obtain ⟨l, ns, rfl, hs, hn, q⟩ := h
  rw [Vals.ref1 r]
  obtain ⟨its, rv, pl, hz⟩ := I.list hs
  refine DLQ.set_listI (I.ok.hd hc) pl.isList (ns := ns) (ints_of_vals rv) (by unfold scanBound; omega) fun h' tk c md => ?_
  obtain ⟨R, kp⟩ := md
  have hc2 : ∀ m : List Int, (∀ k ∈ ns, k ∈ m) → c ≤ m.length := fun m hm => by
    obtain ⟨o, es, ep, t, ho, hex, hd, g, nd, hm2, hb, hf, hn, hr, hl⟩ := id R
    have := DLQ.few_of (m := m) nd fun k hk => hm k (by simpa using (hm2 k).mpr hk)
    rw [List.length_map, Array.length_toList, hn] at this
    exact this
  exact ⟨.ref s.heap.objs.size, upd H s.heap.objs.size (SetO X.w s.heap.objs.size (fun j => decide (j ∈ ns)) c), I.laid (t' := tk) kp (Nat.le_refl _) (setO_new R), rfl, q _ c (I.hok.fresh (Nat.le_refl _)) hc2⟩
/-- the small ints among some -/
def smallS (ns : List Int) : List Int := ([0, 1, 2, 3] : List Int).filter fun k => decide (k ∈ ns)
def smallB (ns : List Int) : Bool := ns.all fun k => decide (0 ≤ k ∧ k < 4)
def D.sset : D → Option D
  | .lst ds => (match intL ds with
    | some ns => if ns.length ≤ 1000 ∧ smallB ns = true then some (.lst ((smallS ns).map D.int)) else none
    | none => none)
  | _ => none
def rSSet (K : PySem.W.Frag) (w : World) : V → Hp → VK → Prop := fun x H Q => rSetOfI K w [x] H fun y H1 => rSortedSet w [y] H1 Q
section
variable {g : Gx} {E : XK} {X : Cx}
theorem small_mem {ns : List Int} (h : smallB ns = true) : ∀ k ∈ ns, k ∈ ([0, 1, 2, 3] : List Int) := fun k hk => by
  have := of_decide_eq_true (List.all_eq_true.mp h k hk)
  simp
  omega
theorem small_iff {ns : List Int} (h : smallB ns = true) (k : Int) : k ∈ smallS ns ↔ k ∈ ns := by
  unfold smallS
  rw [List.mem_filter, decide_eq_true_eq]
  exact ⟨fun z => z.2, fun z => ⟨small_mem h k z, z⟩⟩
theorem small_up (ns : List Int) : (smallS ns).Pairwise (· < ·) := List.Pairwise.filter _ (by decide)
theorem ud_sset : UnD g X.K (rSSet X.K X.w) D.sset := by
  intro ba B H bs x z vx hz e f bi dx Q q
  cases x with
  | lst ds =>
    cases hi : intL ds with
    | none => rw [show D.sset (.lst ds) = none by unfold D.sset; dsimp only; rw [hi]] at hz; cases hz
    | some ns =>
      rw [show D.sset (.lst ds) = if ns.length ≤ 1000 ∧ smallB ns = true then some (.lst ((smallS ns).map D.int)) else none by unfold D.sset; dsimp only; rw [hi]] at hz
      obtain ⟨⟨h1, h2⟩, rfl⟩ := of_ite hz
      obtain ⟨a, vs, rfl, ha, da⟩ := dx.lst e f
      have ev := ints_den hi da
      subst ev
      refine ⟨a, ns, rfl, SqL.of ha, h1, fun p c hp hc => ⟨p, _, c, rfl, upd_same, ?_, fun out p2 u1 u2 u3 hp2 => ?_⟩⟩
      · have := hc _ (small_mem h2)
        simp at this
        omega
      · have eo : out = smallS ns := DLQ.up_ext u1 (small_up ns) fun k => by rw [u2 k, small_iff h2, decide_eq_true_eq]
        subst eo
        have t1 : Step g ba B H B (upd H p (SetO X.w p (fun j => decide (j ∈ ns)) c)) := Step.newH e hp
        have t2 : Step g ba B _ (upd B p2 (.lst ((smallS ns).map V.int))) (upd (upd H p (SetO X.w p (fun j => decide (j ∈ ns)) c)) p2 (.lst ((smallS ns).map V.int))) := Step.new t1.bh hp2
        have i1 : BagIs ba bs (upd H p (SetO X.w p (fun j => decide (j ∈ ns)) c)) := bi.new hp
        exact q _ _ _ (t1.trans i1 t2) (i1.new hp2) (den_lst' upd_same (dens_ints _))
  | _ => exact nomatch (show none = some z from hz)
/-- sorted(set(e)) -/
theorem pd_sset {ea : Expr} {ta : TE} {ma : Ga → M D} {p p2 pos pos2 : Pos} (hc : X.calm = true) (hm : X.mg "sorted" = none) (hm2 : X.mg "set" = none) (a : PB g E X ea ta ma) (hg : Gl X "sorted" := by rfl) (hg2 : Gl X "set" := by rfl)
    (he : starEach [ea] X.env = (false, eval ea X.env) :: starEach [] X.env := by rfl) (he2 : starEach [.Call (.Name "set" p2) [ea] [] pos2] X.env = (false, eval (.Call (.Name "set" p2) [ea] [] pos2) X.env) :: starEach [] X.env := by rfl) :
    PD g E X (.Call (.Name "sorted" p) [.Call (.Name "set" p2) [ea] [] pos2] [] pos) (tUn (rSSet X.K X.w) ta) (un1 D.sset ma) := by
  refine ⟨?_, dg_un ud_sset a.de⟩
  have h := pe_callB (p := p) (pos := pos) (x := "sorted") (cr_sortedSet hc) hg hm PyProof.Rows.boot_sorted (pa_cons (pe_callTy (p := p2) (pos := pos2) (x := "set") (cr_setOfI hc) hg2 hm2 PyProof.Rows.boot_set (pa_cons a.pe pa_nil he) (by decide) (by decide) he rfl) pa_nil he2) (by decide) (by decide) he2 rfl
  exact ⟨fun pins s σ H Q I q => h.run pins s σ H Q I q⟩
end
end DL

set_option Elab.async false
set_option linter.all false
set_option maxRecDepth 100000
set_option maxHeartbeats 400000
namespace DL.WK09
open PySem PySem.Spec PyProof.Rows L2
theorem sc_is_whole : FnScope ["value", "low", "high"] ["value", "low", "high"] (defScope s_is_whole) := ⟨rfl, rfl, rfl, by decide +kernel, rfl, by decide +kernel, by decide +kernel⟩
theorem sc_fits_row : FnScope ["value", "most", "sign"] ["value", "most"] (defScope s_fits_row) := ⟨rfl, rfl, rfl, by decide +kernel, rfl, by decide +kernel, by decide +kernel⟩
theorem sc_need_start : FnScope ["value"] ["value"] (defScope s_need_start) := ⟨rfl, rfl, rfl, by decide +kernel, rfl, by decide +kernel, by decide +kernel⟩
theorem sc_need_row : FnScope ["value"] ["value"] (defScope s_need_row) := ⟨rfl, rfl, rfl, by decide +kernel, rfl, by decide +kernel, by decide +kernel⟩
theorem sc_first_state : FnScope ["start"] ["start"] (defScope s_first_state) := ⟨rfl, rfl, rfl, by decide +kernel, rfl, by decide +kernel, by decide +kernel⟩
theorem sc_moved : FnScope ["rule", "state", "score", "many", "best", "word", "rise", "drop", "scores", "given", "some", "mean", "later"] ["rule", "state", "score"] (defScope s_moved) := ⟨rfl, rfl, rfl, by decide +kernel, rfl, by decide +kernel, by decide +kernel⟩
theorem sc_went : FnScope ["rule", "state", "row", "found", "sign"] ["rule", "state", "row"] (defScope s_went) := ⟨rfl, rfl, rfl, by decide +kernel, rfl, by decide +kernel, by decide +kernel⟩
theorem sc_given_behind : FnScope ["rule", "start", "row"] ["rule", "start", "row"] (defScope s_given_behind) := ⟨rfl, rfl, rfl, by decide +kernel, rfl, by decide +kernel, by decide +kernel⟩
theorem sc_is_card : FnScope ["value"] ["value"] (defScope s_is_card) := ⟨rfl, rfl, rfl, by decide +kernel, rfl, by decide +kernel, by decide +kernel⟩
theorem sc_need_cards : FnScope ["value", "card"] ["value"] (defScope s_need_cards) := ⟨rfl, rfl, rfl, by decide +kernel, rfl, by decide +kernel, by decide +kernel⟩
theorem sc_all_rules : FnScope ["found", "many", "best", "word", "rise", "drop"] [] (defScope s_all_rules) := ⟨rfl, rfl, rfl, by decide +kernel, rfl, by decide +kernel, by decide +kernel⟩
theorem sc_fitting : FnScope ["start", "cards", "rule", "row", "goal"] ["start", "cards"] (defScope s_fitting) := ⟨rfl, rfl, rfl, by decide +kernel, rfl, by decide +kernel, by decide +kernel⟩
theorem sc_rules_told : FnScope ["start", "cards"] ["start", "cards"] (defScope s_rules_told) := ⟨rfl, rfl, rfl, by decide +kernel, rfl, by decide +kernel, by decide +kernel⟩
theorem sc_surely : FnScope ["start", "cards", "row", "some", "rule"] ["start", "cards", "row"] (defScope s_surely) := ⟨rfl, rfl, rfl, by decide +kernel, rfl, by decide +kernel, by decide +kernel⟩
theorem sc__law_cell : FnScope ["script", "k"] ["script", "k"] (defScope s__law_cell) := ⟨rfl, rfl, rfl, by decide +kernel, rfl, by decide +kernel, by decide +kernel⟩
theorem sc__law_draws : FnScope ["script", "k", "many", "base", "primes", "cell", "rest", "row", "j", "mash"] ["script", "k", "many", "base"] (defScope s__law_draws) := ⟨rfl, rfl, rfl, by decide +kernel, rfl, by decide +kernel, by decide +kernel⟩
theorem sc__law_bag : FnScope ["script", "k"] ["script", "k"] (defScope s__law_bag) := ⟨rfl, rfl, rfl, by decide +kernel, rfl, by decide +kernel, by decide +kernel⟩
theorem sc__law_take : FnScope ["bag", "many", "draw"] ["bag", "many"] (defScope s__law_take) := ⟨rfl, rfl, rfl, by decide +kernel, rfl, by decide +kernel, by decide +kernel⟩
theorem sc__law_choice : FnScope ["bag", "some"] ["bag", "some"] (defScope s__law_choice) := ⟨rfl, rfl, rfl, by decide +kernel, rfl, by decide +kernel, by decide +kernel⟩
theorem sc__law_known : FnScope ["some"] [] (defScope s__law_known) := ⟨rfl, rfl, rfl, by decide +kernel, rfl, by decide +kernel, by decide +kernel⟩
theorem sc__law_rule : FnScope ["bag", "many", "best", "word"] ["bag"] (defScope s__law_rule) := ⟨rfl, rfl, rfl, by decide +kernel, rfl, by decide +kernel, by decide +kernel⟩
theorem sc__law_row : FnScope ["bag", "most", "row", "turn"] ["bag", "most"] (defScope s__law_row) := ⟨rfl, rfl, rfl, by decide +kernel, rfl, by decide +kernel, by decide +kernel⟩
theorem sc__law_next : FnScope ["rule_so", "row", "given", "many", "best", "word", "rise", "drop", "some", "mean", "later", "sign"] ["rule_so", "row", "given"] (defScope s__law_next) := ⟨rfl, rfl, rfl, by decide +kernel, rfl, by decide +kernel, by decide +kernel⟩
theorem sc__law_givens : FnScope ["rule_so", "start", "row", "found", "at"] ["rule_so", "start", "row"] (defScope s__law_givens) := ⟨rfl, rfl, rfl, by decide +kernel, rfl, by decide +kernel, by decide +kernel⟩
theorem sc__law_named_error : FnScope ["e", "some", "labels", "label", "good"] ["e"] (defScope s__law_named_error) := ⟨rfl, rfl, rfl, by decide +kernel, rfl, by decide +kernel, by decide +kernel⟩
theorem sc__law_error : FnScope ["call", "e"] ["call"] (defScope s__law_error) := ⟨rfl, rfl, rfl, by decide +kernel, rfl, by decide +kernel, by decide +kernel⟩
theorem sc__law_all_refused : FnScope ["call", "odds", "name", "odd"] ["call", "odds", "name"] (defScope s__law_all_refused) := ⟨rfl, rfl, rfl, by decide +kernel, rfl, by decide +kernel, by decide +kernel⟩
theorem sc__law_bad_starts : FnScope [] [] (defScope s__law_bad_starts) := ⟨rfl, rfl, rfl, by decide +kernel, rfl, by decide +kernel, by decide +kernel⟩
theorem sc__law_bad_rows : FnScope [] [] (defScope s__law_bad_rows) := ⟨rfl, rfl, rfl, by decide +kernel, rfl, by decide +kernel, by decide +kernel⟩
theorem sc__law_every_rule : FnScope ["found", "many", "best", "number"] [] (defScope s__law_every_rule) := ⟨rfl, rfl, rfl, by decide +kernel, rfl, by decide +kernel, by decide +kernel⟩
theorem sc__law_fitting : FnScope ["start", "cards", "found", "one", "row", "given"] ["start", "cards"] (defScope s__law_fitting) := ⟨rfl, rfl, rfl, by decide +kernel, rfl, by decide +kernel, by decide +kernel⟩
theorem sc__law_cards : FnScope ["bag", "rule_so", "start", "found", "turn", "row", "given"] ["bag", "rule_so", "start"] (defScope s__law_cards) := ⟨rfl, rfl, rfl, by decide +kernel, rfl, by decide +kernel, by decide +kernel⟩
theorem sc__law_refused : FnScope ["odds", "odd"] [] (defScope s__law_refused) := ⟨rfl, rfl, rfl, by decide +kernel, rfl, by decide +kernel, by decide +kernel⟩
theorem sc_law : FnScope ["script", "k", "bag", "one", "start", "cards_so", "row", "due", "found", "some", "other"] ["script"] (defScope s_law) := ⟨rfl, rfl, rfl, by decide +kernel, rfl, by decide +kernel, by decide +kernel⟩
/-- what the top has left -/
structure Tx (K : PySem.W.Frag) (mg : Str → Option Value) : Prop where
  d_is_whole : DefF K mg "is_whole" s_is_whole
  d_fits_row : DefF K mg "fits_row" s_fits_row
  d_need_start : DefF K mg "need_start" s_need_start
  d_need_row : DefF K mg "need_row" s_need_row
  d_first_state : DefF K mg "first_state" s_first_state
  d_moved : DefF K mg "moved" s_moved
  d_went : DefF K mg "went" s_went
  d_given_behind : DefF K mg "given_behind" s_given_behind
  d_is_card : DefF K mg "is_card" s_is_card
  d_need_cards : DefF K mg "need_cards" s_need_cards
  d_all_rules : DefF K mg "all_rules" s_all_rules
  d_fitting : DefF K mg "fitting" s_fitting
  d_rules_told : DefF K mg "rules_told" s_rules_told
  d_surely : DefF K mg "surely" s_surely
  d__law_cell : DefF K mg "_law_cell" s__law_cell
  d__law_draws : DefF K mg "_law_draws" s__law_draws
  d__law_bag : DefF K mg "_law_bag" s__law_bag
  d__law_take : DefF K mg "_law_take" s__law_take
  d__law_choice : DefF K mg "_law_choice" s__law_choice
  d__law_known : DefF K mg "_law_known" s__law_known
  d__law_rule : DefF K mg "_law_rule" s__law_rule
  d__law_row : DefF K mg "_law_row" s__law_row
  d__law_next : DefF K mg "_law_next" s__law_next
  d__law_givens : DefF K mg "_law_givens" s__law_givens
  d__law_named_error : DefF K mg "_law_named_error" s__law_named_error
  d__law_error : DefF K mg "_law_error" s__law_error
  d__law_all_refused : DefF K mg "_law_all_refused" s__law_all_refused
  d__law_bad_starts : DefF K mg "_law_bad_starts" s__law_bad_starts
  d__law_bad_rows : DefF K mg "_law_bad_rows" s__law_bad_rows
  d__law_every_rule : DefF K mg "_law_every_rule" s__law_every_rule
  d__law_fitting : DefF K mg "_law_fitting" s__law_fitting
  d__law_cards : DefF K mg "_law_cards" s__law_cards
  d__law_refused : DefF K mg "_law_refused" s__law_refused
  d_law : DefF K mg "law" s_law
  z_ValueError : mg "ValueError" = none
  z_all : mg "all" = none
  z_bool : mg "bool" = none
  z_int : mg "int" = none
  z_isinstance : mg "isinstance" = none
  z_len : mg "len" = none
  z_list : mg "list" = none
  z_max : mg "max" = none
  z_min : mg "min" = none
  z_range : mg "range" = none
  z_set : mg "set" = none
  z_sorted : mg "sorted" = none
  z_str : mg "str" = none
  z_sum : mg "sum" = none
  z_tuple : mg "tuple" = none
  z_zip : mg "zip" = none
  c_MOST : ∃ t, mg "MOST" = some (.int 3 t)
  c_ROUNDS : ∃ t, mg "ROUNDS" = some (.int 40 t)
  c_SIGNS : ∃ t, mg "SIGNS" = some (.str "0123" t)
  g_WORDS : mg "WORDS" = some (.ref (He.ga K "WORDS"))
  t_WORDS : ∀ H, SqT K H (He.ga K "WORDS") ([("down" : Str), ("up" : Str)].map V.str)
  g_InvalidCards : mg "InvalidCards" = some (.ref (He.ga K "InvalidCards"))
  x_InvalidCards : PySem.W.excIn K (He.ga K "InvalidCards") He.veBase "ValueError.__new__" = true ∧ PySem.W.keepIn K (.ref (He.ga K "InvalidCards")) = true ∧ PySem.W.subIn K (.ref (He.ga K "InvalidCards")) (.type "BaseException") = some true ∧ PySem.W.typeIn K (.ref (He.ga K "InvalidCards")) = some (.type "type")
  g_InvalidRow : mg "InvalidRow" = some (.ref (He.ga K "InvalidRow"))
  x_InvalidRow : PySem.W.excIn K (He.ga K "InvalidRow") He.veBase "ValueError.__new__" = true ∧ PySem.W.keepIn K (.ref (He.ga K "InvalidRow")) = true ∧ PySem.W.subIn K (.ref (He.ga K "InvalidRow")) (.type "BaseException") = some true ∧ PySem.W.typeIn K (.ref (He.ga K "InvalidRow")) = some (.type "type")
  g_InvalidStart : mg "InvalidStart" = some (.ref (He.ga K "InvalidStart"))
  x_InvalidStart : PySem.W.excIn K (He.ga K "InvalidStart") He.veBase "ValueError.__new__" = true ∧ PySem.W.keepIn K (.ref (He.ga K "InvalidStart")) = true ∧ PySem.W.subIn K (.ref (He.ga K "InvalidStart")) (.type "BaseException") = some true ∧ PySem.W.typeIn K (.ref (He.ga K "InvalidStart")) = some (.type "type")
  g_StrokeError : mg "StrokeError" = some (.ref (He.ga K "StrokeError"))
  g_InvalidRule : mg "InvalidRule" = some (.ref (He.ga K "InvalidRule"))
  g_InvalidPrizes : mg "InvalidPrizes" = some (.ref (He.ga K "InvalidPrizes"))
  g_InvalidSkill : mg "InvalidSkill" = some (.ref (He.ga K "InvalidSkill"))
  g_InvalidNumber : mg "InvalidNumber" = some (.ref (He.ga K "InvalidNumber"))
  g_InvalidWords : mg "InvalidWords" = some (.ref (He.ga K "InvalidWords"))
  g_InvalidIndex : mg "InvalidIndex" = some (.ref (He.ga K "InvalidIndex"))
  g_InvalidScore : mg "InvalidScore" = some (.ref (He.ga K "InvalidScore"))
  g_InvalidSeen : mg "InvalidSeen" = some (.ref (He.ga K "InvalidSeen"))
  g_InvalidText : mg "InvalidText" = some (.ref (He.ga K "InvalidText"))
  g_TooMany : mg "TooMany" = some (.ref (He.ga K "TooMany"))
  g_Unlike : mg "Unlike" = some (.ref (He.ga K "Unlike"))
  g_NothingToUndo : mg "NothingToUndo" = some (.ref (He.ga K "NothingToUndo"))
  ex : ExcT K
def lamNm (l c : Nat) : Str := bif l == 171 && c == 46 then ("_law_all_refused" ++ ".<locals>.") ++ "<lambda>" else bif l == 198 && c == 22 then ("_law_refused" ++ ".<locals>.") ++ "<lambda>" else bif l == 200 && c == 22 then ("_law_refused" ++ ".<locals>.") ++ "<lambda>" else bif l == 202 && c == 28 then ("_law_refused" ++ ".<locals>.") ++ "<lambda>" else bif l == 204 && c == 28 then ("_law_refused" ++ ".<locals>.") ++ "<lambda>" else bif l == 206 && c == 28 then ("_law_refused" ++ ".<locals>.") ++ "<lambda>" else Str.empty
abbrev gx (K : PySem.W.Frag) : Gx := ⟨tabsOf K lamNm tfL, He.ga K, fun _ _ _ => True⟩
section
variable {P : Program} {w : World} {K : PySem.W.Frag} {mg : Str → Option Value} {base : Heap}
def m_is_whole : Ga → M Fl := (retM (fun Γ => andV ((fun Γ => M.bnd ((fun Γ => consM ((fun Γ => rdv Γ 0) Γ) ((fun Γ => consM ((fun _ => M.ret (D.obj (.ty "int"))) Γ) ((fun _ => M.ret []) Γ)) Γ)) Γ) fun xs => opt (D.isi xs)) Γ) ((fun Γ => andV ((fun Γ => notV ((fun Γ => M.bnd ((fun Γ => consM ((fun Γ => rdv Γ 0) Γ) ((fun Γ => consM ((fun _ => M.ret (D.obj (.ty "bool"))) Γ) ((fun _ => M.ret []) Γ)) Γ)) Γ) fun xs => opt (D.isi xs)) Γ)) Γ) ((chainM D.le D.le (fun Γ => rdv Γ 1) (fun Γ => rdv Γ 0) (fun Γ => rdv Γ 2)) Γ)) Γ)))
def f_is_whole : List D → M D := runD 3 m_is_whole
theorem ok_is_whole (T : Tx K mg) (TB : TBs K mg base tfL) : OkF (gx K) P w K mg base 1 "is_whole" ["value", "low", "high"] f_is_whole := by
  refine okF (g := gx K) (N := ["value", "low", "high"]) (m := m_is_whole) (k := 0) T.d_is_whole sc_is_whole (by decide) (fun _ _ _ _ _ _ us hl => match us, hl with | [_, _, _], _ => rfl) (fun f cdv A outer s H E hr => ?_)
  have h : PDSs (gx K) E (cxOf (L2N.CX P w) P w K mg base ["value", "low", "high"] "is_whole" (defScope s_is_whole) f cdv A outer s H E) (defBody s_is_whole) _ _ := (pds_one (pds_ret (pd_and (pd_callB call_isi cd_isi T.z_isinstance boot_isinstance (pab_c (PD.pb (pd_v (pv 0))) (pab_c (PD.pb (pd_ty T.z_int boot_int)) pab_n))) (pd_and (pd_not (pd_callB call_isi cd_isi T.z_isinstance boot_isinstance (pab_c (PD.pb (pd_v (pv 0))) (pab_c (PD.pb (pd_ty T.z_bool boot_bool)) pab_n)))) (pd_one (pd_chain op_le op_le od_le od_le (PD.pb (pd_v (pv 1))) (PD.pb (pd_v (pv 0))) (PD.pb (pd_v (pv 2)))))))))
  exact ⟨_, h⟩
def c_fits_row_1 : Ga → M (List D) := (compM [2] (fun Γ => M.bnd ((fun Γ => rdv Γ 0) Γ) itemsK) (gN 2) (fun _ => M.ret true) (bin D.isin (fun Γ => rdv Γ 2) (fun _ => M.ret (D.str "0123"))))
def m_fits_row : Ga → M Fl := (retM (fun Γ => andV ((fun Γ => M.bnd ((fun Γ => consM ((fun Γ => rdv Γ 0) Γ) ((fun Γ => consM ((fun _ => M.ret (D.obj (.ty "str"))) Γ) ((fun _ => M.ret []) Γ)) Γ)) Γ) fun xs => opt (D.isi xs)) Γ) ((fun Γ => andV ((bin D.le (fun Γ => M.bnd ((fun Γ => consM ((fun Γ => rdv Γ 0) Γ) ((fun _ => M.ret []) Γ)) Γ) fun xs => opt (D.len xs)) (fun Γ => rdv Γ 1)) Γ) ((fun Γ => M.bnd ((fun Γ => consM ((lstOf c_fits_row_1) Γ) ((fun _ => M.ret []) Γ)) Γ) fun xs => opt (D.all xs)) Γ)) Γ)))
def f_fits_row : List D → M D := runD 3 m_fits_row
theorem ok_fits_row (T : Tx K mg) (TB : TBs K mg base tfL) : OkF (gx K) P w K mg base 1 "fits_row" ["value", "most"] f_fits_row := by
  refine okF (g := gx K) (N := ["value", "most", "sign"]) (m := m_fits_row) (k := 0) T.d_fits_row sc_fits_row (by decide) (fun _ _ _ _ _ _ us hl => match us, hl with | [_, _], _ => rfl) (fun f cdv A outer s H E hr => ?_)
  have h : PDSs (gx K) E (cxOf (L2N.CX P w) P w K mg base ["value", "most", "sign"] "fits_row" (defScope s_fits_row) f cdv A outer s H E) (defBody s_fits_row) _ _ := (pds_one (pds_ret (pd_and (pd_callB call_isi cd_isi T.z_isinstance boot_isinstance (pab_c (PD.pb (pd_v (pv 0))) (pab_c (PD.pb (pd_ty T.z_str boot_str)) pab_n))) (pd_and (pd_cmp op_le od_le (PD.pb (pd_callB cl_len cd_len T.z_len boot_len (pab_c (PD.pb (pd_v (pv 0))) pab_n))) (PD.pb (pd_v (pv 1)))) (pd_one (pd_callB (cr_all rfl) cd_all T.z_all boot_all (pab_c (PD.pb (PN.pd (pn_lc rfl sc_fits_row.nd (pi_any (pd_v (pv 0))) (blkOk_by (own := [("sign", 2)]) (by kernel_rfl)) (fun s H C cl fp => ⟨_, (pg_n (pg_name (i := 2) sc_fits_row.nd rfl (by first | exact Or.inl rfl | exact Or.inr rfl))), (own_n (by decide)), mono_n⟩) (fun s H C cl fp => ⟨_, pdts_n⟩) (fun s H C cl fp => ⟨_, (pd_in hr (PD.pb (pd_v (pv 2))) (PD.pb (pd_gs T.c_SIGNS)))⟩)))) pab_n)))))))
  exact ⟨_, h⟩
def m_need_start_1 : Ga → M Fl := (fun Γ => ifM ((fun Γ => notM ((fun Γ => M.bnd ((fun Γ => M.bnd ((fun Γ => consM ((fun Γ => rdv Γ 0) Γ) ((fun Γ => consM ((fun _ => M.ret (D.int 0)) Γ) ((fun Γ => consM ((fun _ => M.ret (D.int 3)) Γ) ((fun _ => M.ret []) Γ)) Γ)) Γ)) Γ) (callK 3 f_is_whole)) Γ) asB) Γ)) Γ) ((fun _ => raise "InvalidStart") Γ) (nxM Γ))
def m_need_start : Ga → M Fl := m_need_start_1
def f_need_start : List D → M D := runD 1 m_need_start
theorem ok_need_start (T : Tx K mg) (TB : TBs K mg base tfL) : OkF (gx K) P w K mg base 2 "need_start" ["value"] f_need_start := by
  refine okF (g := gx K) (N := ["value"]) (m := m_need_start) (k := 1) T.d_need_start sc_need_start (by decide) (fun _ _ _ _ _ _ us hl => match us, hl with | [_], _ => rfl) (fun f cdv A outer s H E hr => ?_)
  have h : PDSs (gx K) E (cxOf (L2N.CX P w) P w K mg base ["value"] "need_start" (defScope s_need_start) f cdv A outer s H E) (defBody s_need_start) _ _ := (pds_one (pds_if (pt_n (pt_v (pd_f (ok_is_whole T TB) hr (by decide) (L2N.passes_call (L2N.takes_of rfl rfl rfl rfl) (fun _ _ _ _ h => h)) (pa_c (pd_v (pv 0)) (pa_c pd_int (pa_c pd_int pa_n)))))) (pds_one (pds_raise (c := "InvalidStart") rfl (L2N.takes_of rfl rfl rfl rfl) (L2N.pmk_own PySem.F.excBase_ValueError T.x_InvalidStart.1 T.g_InvalidStart T.x_InvalidStart.2.1 (raises_own T.x_InvalidStart.2.2.1 T.x_InvalidStart.2.2.2) rfl) rfl (fun _ _ h => h))) pds_nil))
  exact ⟨_, h⟩
def m_need_row_1 : Ga → M Fl := (fun Γ => ifM ((fun Γ => notM ((fun Γ => M.bnd ((fun Γ => M.bnd ((fun Γ => consM ((fun Γ => rdv Γ 0) Γ) ((fun Γ => consM ((fun _ => M.ret (D.int 40)) Γ) ((fun _ => M.ret []) Γ)) Γ)) Γ) (callK 2 f_fits_row)) Γ) asB) Γ)) Γ) ((fun _ => raise "InvalidRow") Γ) (nxM Γ))
def m_need_row : Ga → M Fl := m_need_row_1
def f_need_row : List D → M D := runD 1 m_need_row
theorem ok_need_row (T : Tx K mg) (TB : TBs K mg base tfL) : OkF (gx K) P w K mg base 2 "need_row" ["value"] f_need_row := by
  refine okF (g := gx K) (N := ["value"]) (m := m_need_row) (k := 1) T.d_need_row sc_need_row (by decide) (fun _ _ _ _ _ _ us hl => match us, hl with | [_], _ => rfl) (fun f cdv A outer s H E hr => ?_)
  have h : PDSs (gx K) E (cxOf (L2N.CX P w) P w K mg base ["value"] "need_row" (defScope s_need_row) f cdv A outer s H E) (defBody s_need_row) _ _ := (pds_one (pds_if (pt_n (pt_v (pd_f (ok_fits_row T TB) hr (by decide) (L2N.passes_call (L2N.takes_of rfl rfl rfl rfl) (fun _ _ _ _ h => h)) (pa_c (pd_v (pv 0)) (pa_c (pd_gi T.c_ROUNDS) pa_n))))) (pds_one (pds_raise (c := "InvalidRow") rfl (L2N.takes_of rfl rfl rfl rfl) (L2N.pmk_own PySem.F.excBase_ValueError T.x_InvalidRow.1 T.g_InvalidRow T.x_InvalidRow.2.1 (raises_own T.x_InvalidRow.2.2.1 T.x_InvalidRow.2.2.2) rfl) rfl (fun _ _ h => h))) pds_nil))
  exact ⟨_, h⟩
def m_first_state : Ga → M Fl := (retM (fun Γ => M.bnd ((fun Γ => consM ((fun Γ => M.bnd ((fun _ => M.ret []) Γ) tupK) Γ) ((fun Γ => consM ((fun Γ => rdv Γ 0) Γ) ((fun _ => M.ret []) Γ)) Γ)) Γ) tupK))
def f_first_state : List D → M D := runD 1 m_first_state
theorem ok_first_state (T : Tx K mg) (TB : TBs K mg base tfL) : OkF (gx K) P w K mg base 1 "first_state" ["start"] f_first_state := by
  refine okF (g := gx K) (N := ["start"]) (m := m_first_state) (k := 0) T.d_first_state sc_first_state (by decide) (fun _ _ _ _ _ _ us hl => match us, hl with | [_], _ => rfl) (fun f cdv A outer s H E hr => ?_)
  have h : PDSs (gx K) E (cxOf (L2N.CX P w) P w K mg base ["start"] "first_state" (defScope s_first_state) f cdv A outer s H E) (defBody s_first_state) _ _ := (pds_one (pds_ret (pd_tup (pa_c (pd_tup pa_n) (pa_c (pd_v (pv 0)) pa_n)))))
  exact ⟨_, h⟩
def m_moved_1 : Ga → M Fl := (fun Γ => ifM ((fun Γ => andM ((fun Γ => M.bnd (bin D.gt (fun Γ => rdv Γ 7) (fun _ => M.ret (D.int 0)) Γ) asB) Γ) ((fun Γ => M.bnd (bin D.ge (bin D.sub (fun Γ => rdv Γ 9) (fun Γ => rdv Γ 2)) (fun Γ => rdv Γ 7) Γ) asB) Γ)) Γ) ((asgM (fun Γ => M.bnd ((fun Γ => consM ((fun _ => M.ret (D.int 0)) Γ) ((fun Γ => consM ((bin D.sub (fun Γ => rdv Γ 12) (fun _ => M.ret (D.int 1))) Γ) ((fun _ => M.ret []) Γ)) Γ)) Γ) fun xs => opt (D.max2 xs)) (gN 12)) Γ) (nxM Γ))
def m_moved : Ga → M Fl := (seqM (asgM (fun Γ => rdv Γ 0) (gT 5 (gsCons (gN 3) (gsCons (gN 4) (gsCons (gN 5) (gsCons (gN 6) (gsCons (gN 7) gsNil)))))))
  (seqM (parM 8 9 (fun Γ => consM ((fun Γ => cutM ((bin D.add (bin D.ix (fun Γ => rdv Γ 1) (fun _ => M.ret (D.int 0))) (fun Γ => M.bnd ((fun Γ => consM ((fun Γ => rdv Γ 2) Γ) ((fun _ => M.ret []) Γ)) Γ) tupK)) Γ) ((fun Γ => M.bnd ((un1 D.neg (fun Γ => rdv Γ 3)) Γ) asI) Γ) ((fun _ => M.ret none) Γ)) Γ) ((fun Γ => consM ((bin D.ix (fun Γ => rdv Γ 1) (fun _ => M.ret (D.int 1))) Γ) ((fun _ => M.ret []) Γ)) Γ)))
  (seqM (asgM (fun Γ => cutM ((fun Γ => M.bnd ((fun Γ => consM ((fun Γ => rdv Γ 8) Γ) ((fun _ => M.ret []) Γ)) Γ) fun xs => opt (D.sorted xs)) Γ) ((fun _ => M.ret none) Γ) ((fun Γ => M.bnd ((fun Γ => rdv Γ 4) Γ) asI) Γ)) (gN 10))
  (seqM (asgM (fun Γ => ifM ((fun Γ => M.bnd (bin D.eq (fun Γ => rdv Γ 5) (fun _ => M.ret (D.str "down")) Γ) asB) Γ) ((bin D.fdiv (fun Γ => M.bnd ((fun Γ => consM ((fun Γ => rdv Γ 10) Γ) ((fun _ => M.ret []) Γ)) Γ) fun xs => opt (D.sum xs)) (fun Γ => M.bnd ((fun Γ => consM ((fun Γ => rdv Γ 10) Γ) ((fun _ => M.ret []) Γ)) Γ) fun xs => opt (D.len xs))) Γ) ((un1 D.neg (bin D.fdiv (un1 D.neg (fun Γ => M.bnd ((fun Γ => consM ((fun Γ => rdv Γ 10) Γ) ((fun _ => M.ret []) Γ)) Γ) fun xs => opt (D.sum xs))) (fun Γ => M.bnd ((fun Γ => consM ((fun Γ => rdv Γ 10) Γ) ((fun _ => M.ret []) Γ)) Γ) fun xs => opt (D.len xs)))) Γ)) (gN 11))
  (seqM (asgM (fun Γ => M.bnd ((fun Γ => consM ((fun Γ => rdv Γ 11) Γ) ((fun Γ => consM ((bin D.add (fun Γ => rdv Γ 9) (fun Γ => rdv Γ 6)) Γ) ((fun _ => M.ret []) Γ)) Γ)) Γ) fun xs => opt (D.min2 xs)) (gN 12))
  (seqM m_moved_1
  (retM (fun Γ => M.bnd ((fun Γ => consM ((fun Γ => rdv Γ 8) Γ) ((fun Γ => consM ((fun Γ => rdv Γ 12) Γ) ((fun _ => M.ret []) Γ)) Γ)) Γ) tupK))))))))
def f_moved : List D → M D := runD 13 m_moved
theorem ok_moved (T : Tx K mg) (TB : TBs K mg base tfL) : OkF (gx K) P w K mg base 1 "moved" ["rule", "state", "score"] f_moved := by
  refine okF (g := gx K) (N := ["rule", "state", "score", "many", "best", "word", "rise", "drop", "scores", "given", "some", "mean", "later"]) (m := m_moved) (k := 0) T.d_moved sc_moved (by decide) (fun _ _ _ _ _ _ us hl => match us, hl with | [_, _, _], _ => rfl) (fun f cdv A outer s H E hr => ?_)
  have h : PDSs (gx K) E (cxOf (L2N.CX P w) P w K mg base ["rule", "state", "score", "many", "best", "word", "rise", "drop", "scores", "given", "some", "mean", "later"] "moved" (defScope s_moved) f cdv A outer s H E) (defBody s_moved) _ _ := (pds_cons (pds_asg (pd_v (pv 0)) (pg_t (n := 5) rfl (pgs_c (pg_n (pg_name (i := 3) sc_moved.nd rfl (by first | exact Or.inl rfl | exact Or.inr rfl))) (pgs_c (pg_n (pg_name (i := 4) sc_moved.nd rfl (by first | exact Or.inl rfl | exact Or.inr rfl))) (pgs_c (pg_n (pg_name (i := 5) sc_moved.nd rfl (by first | exact Or.inl rfl | exact Or.inr rfl))) (pgs_c (pg_n (pg_name (i := 6) sc_moved.nd rfl (by first | exact Or.inl rfl | exact Or.inr rfl))) (pgs_c (pg_n (pg_name (i := 7) sc_moved.nd rfl (by first | exact Or.inl rfl | exact Or.inr rfl))) pgs_n)))))))
      (pds_cons (pds_p2 (i := 8) (j := 9) rfl sc_moved.nd rfl rfl (by decide) rfl rfl (pa_c (pd_cut (PD.pb (pd_op op_addD od_add (PD.pb (pd_ix (PD.pb (pd_v (pv 1))) (PD.pb pd_int))) (PD.pb (pd_tup (pa_c (pd_v (pv 2)) pa_n))))) (po_s (PD.pb (pd_neg (PD.pb (pd_v (pv 3)))))) po_n) (pa_c (pd_ix (PD.pb (pd_v (pv 1))) (PD.pb pd_int)) pa_n)) (by rfl))
      (pds_cons (pds_st (i := 10) sc_moved.nd rfl (by first | exact Or.inl rfl | exact Or.inr rfl) (pd_cut (PD.pb (pd_callB (cl_sorted (hu65 hr)) cd_sorted T.z_sorted boot_sorted (pab_c (PD.pb (pd_v (pv 8))) pab_n))) po_n (po_s (PD.pb (pd_v (pv 4))))))
      (pds_cons (pds_st (i := 11) sc_moved.nd rfl (by first | exact Or.inl rfl | exact Or.inr rfl) (pd_if (pt_eq hr (PD.pb (pd_v (pv 5))) (PD.pb pd_str)) (pd_op op_fdiv od_fdiv (PD.pb (pd_callB (cr_sum rfl) cd_sum T.z_sum boot_sum (pab_c (PD.pb (pd_v (pv 10))) pab_n))) (PD.pb (pd_callB cl_len cd_len T.z_len boot_len (pab_c (PD.pb (pd_v (pv 10))) pab_n)))) (pd_neg (PD.pb (pd_op op_fdiv od_fdiv (PD.pb (pd_neg (PD.pb (pd_callB (cr_sum rfl) cd_sum T.z_sum boot_sum (pab_c (PD.pb (pd_v (pv 10))) pab_n))))) (PD.pb (pd_callB cl_len cd_len T.z_len boot_len (pab_c (PD.pb (pd_v (pv 10))) pab_n))))))))
      (pds_cons (pds_st (i := 12) sc_moved.nd rfl (by first | exact Or.inl rfl | exact Or.inr rfl) (pd_callB (call_min2 rfl) cd_min2 T.z_min boot_min (pab_c (PD.pb (pd_v (pv 11))) (pab_c (PD.pb (pd_op op_addD od_add (PD.pb (pd_v (pv 9))) (PD.pb (pd_v (pv 6))))) pab_n))))
      (pds_cons (pds_if (PDW.pt (pw_a (pt_cmp op_gt od_gt (PD.pb (pd_v (pv 7))) (PD.pb pd_int)) (pw_a1 (pt_cmp op_ge od_ge (PD.pb (pd_op op_sub od_sub (PD.pb (pd_v (pv 9))) (PD.pb (pd_v (pv 2))))) (PD.pb (pd_v (pv 7))))))) (pds_one (pds_st (i := 12) sc_moved.nd rfl (by first | exact Or.inl rfl | exact Or.inr rfl) (pd_callB (call_max2 rfl) cd_max2 T.z_max boot_max (pab_c (PD.pb pd_int) (pab_c (PD.pb (pd_op op_sub od_sub (PD.pb (pd_v (pv 12))) (PD.pb pd_int))) pab_n))))) pds_nil)
      (pds_one (pds_ret (pd_tup (pa_c (pd_v (pv 8)) (pa_c (pd_v (pv 12)) pa_n)))))))))))
  exact ⟨_, h⟩
def b_went_1 : Ga → M Fl := (seqM (appM 3 (bin D.sub (fun Γ => M.bnd ((fun Γ => consM ((fun Γ => rdv Γ 4) Γ) ((fun _ => M.ret []) Γ)) Γ) fun xs => opt (D.toInt xs)) (bin D.ix (fun Γ => rdv Γ 1) (fun _ => M.ret (D.int 1)))))
  (asgM (fun Γ => M.bnd ((fun Γ => consM ((fun Γ => rdv Γ 0) Γ) ((fun Γ => consM ((fun Γ => rdv Γ 1) Γ) ((fun Γ => consM ((fun Γ => M.bnd ((fun Γ => consM ((fun Γ => rdv Γ 4) Γ) ((fun _ => M.ret []) Γ)) Γ) fun xs => opt (D.toInt xs)) Γ) ((fun _ => M.ret []) Γ)) Γ)) Γ)) Γ) (callK 3 f_moved)) (gN 1)))
def m_went_1 : Ga → M Fl := (forM' (fun Γ => M.bnd ((fun Γ => rdv Γ 2) Γ) itemsK) (gN 4) b_went_1)
def m_went : Ga → M Fl := (seqM (ownM 3 (fun Γ => M.bnd ((fun _ => M.ret []) Γ) lenK))
  (seqM m_went_1
  (fun Γ => (retM (fun Γ => M.bnd ((fun Γ => consM ((fun Γ => rdv Γ 1) Γ) ((fun Γ => consM ((fun Γ => rdv Γ 3) Γ) ((fun _ => M.ret []) Γ)) Γ)) Γ) tupK)) (frz 3 Γ))))
def f_went : List D → M D := runD 5 m_went
theorem ok_went (T : Tx K mg) (TB : TBs K mg base tfL) : OkF (gx K) P w K mg base 2 "went" ["rule", "state", "row"] f_went := by
  refine okF (g := gx K) (N := ["rule", "state", "row", "found", "sign"]) (m := m_went) (k := 1) T.d_went sc_went (by decide) (fun _ _ _ _ _ _ us hl => match us, hl with | [_, _, _], _ => rfl) (fun f cdv A outer s H E hr => ?_)
  have h : PDSs (gx K) E (cxOf (L2N.CX P w) P w K mg base ["rule", "state", "row", "found", "sign"] "went" (defScope s_went) f cdv A outer s H E) (defBody s_went) _ _ := (pds_cons (pds_ow (i := 3) sc_went.nd rfl (by first | exact Or.inl rfl | exact Or.inr rfl) (pn_lst pa_n))
      (pds_cons (pds_for (passes_of rfl) rfl (pi_any (pd_v (pv 2))) (pg_n (pg_name (i := 4) sc_went.nd rfl (by first | exact Or.inl rfl | exact Or.inr rfl))) (pds_cons (pds_append (pv 3) (pd_op op_sub od_sub (PD.pb (pd_callTy cl_int cd_int T.z_int boot_int (pab_c (PD.pb (pd_v (pv 4))) pab_n))) (PD.pb (pd_ix (PD.pb (pd_v (pv 1))) (PD.pb pd_int)))))
      (pds_one (pds_st (i := 1) sc_went.nd rfl (by first | exact Or.inl rfl | exact Or.inr rfl) (pd_f (ok_moved T TB) hr (by decide) (L2N.passes_call (L2N.takes_of rfl rfl rfl rfl) (fun _ _ _ _ h => h)) (pa_c (pd_v (pv 0)) (pa_c (pd_v (pv 1)) (pa_c (pd_callTy cl_int cd_int T.z_int boot_int (pab_c (PD.pb (pd_v (pv 4))) pab_n)) pa_n))))))))
      (pds_one (pds_frz 3 (pds_ret (pd_tup (pa_c (pd_v (pv 1)) (pa_c (pd_v (pv 3)) pa_n))))))))
  exact ⟨_, h⟩
def m_given_behind : Ga → M Fl := (retM (bin D.ix (bin D.ix (fun Γ => M.bnd ((fun Γ => consM ((fun Γ => rdv Γ 0) Γ) ((fun Γ => consM ((fun Γ => M.bnd ((fun Γ => consM ((fun Γ => rdv Γ 1) Γ) ((fun _ => M.ret []) Γ)) Γ) (callK 1 f_first_state)) Γ) ((fun Γ => consM ((fun Γ => rdv Γ 2) Γ) ((fun _ => M.ret []) Γ)) Γ)) Γ)) Γ) (callK 3 f_went)) (fun _ => M.ret (D.int 0))) (fun _ => M.ret (D.int 1))))
def f_given_behind : List D → M D := runD 3 m_given_behind
theorem ok_given_behind (T : Tx K mg) (TB : TBs K mg base tfL) : OkF (gx K) P w K mg base 3 "given_behind" ["rule", "start", "row"] f_given_behind := by
  refine okF (g := gx K) (N := ["rule", "start", "row"]) (m := m_given_behind) (k := 2) T.d_given_behind sc_given_behind (by decide) (fun _ _ _ _ _ _ us hl => match us, hl with | [_, _, _], _ => rfl) (fun f cdv A outer s H E hr => ?_)
  have h : PDSs (gx K) E (cxOf (L2N.CX P w) P w K mg base ["rule", "start", "row"] "given_behind" (defScope s_given_behind) f cdv A outer s H E) (defBody s_given_behind) _ _ := (pds_one (pds_ret (pd_ix (PD.pb (pd_ix (PD.pb (pd_f (ok_went T TB) hr (by decide) (L2N.passes_call (L2N.takes_of rfl rfl rfl rfl) (fun _ _ _ _ h => h)) (pa_c (pd_v (pv 0)) (pa_c (pd_f (ok_first_state T TB) hr (by decide) (L2N.passes_call (L2N.takes_of rfl rfl rfl rfl) (fun _ _ _ _ h => h)) (pa_c (pd_v (pv 1)) pa_n)) (pa_c (pd_v (pv 2)) pa_n))))) (PD.pb pd_int))) (PD.pb pd_int))))
  exact ⟨_, h⟩
def m_is_card_1 : Ga → M Fl := (fun Γ => ifM ((fun Γ => orM ((fun Γ => notM ((fun Γ => M.bnd ((fun Γ => M.bnd ((fun Γ => consM ((fun Γ => rdv Γ 0) Γ) ((fun Γ => consM ((fun _ => M.ret (D.obj (.ty "tuple"))) Γ) ((fun _ => M.ret []) Γ)) Γ)) Γ) fun xs => opt (D.isi xs)) Γ) asB) Γ)) Γ) ((fun Γ => M.bnd (bin D.ne (fun Γ => M.bnd ((fun Γ => consM ((fun Γ => rdv Γ 0) Γ) ((fun _ => M.ret []) Γ)) Γ) fun xs => opt (D.len xs)) (fun _ => M.ret (D.int 2)) Γ) asB) Γ)) Γ) ((retM (fun _ => M.ret (D.bl false))) Γ) (nxM Γ))
def m_is_card : Ga → M Fl := (seqM m_is_card_1
  (retM (fun Γ => andV ((fun Γ => M.bnd ((fun Γ => consM ((bin D.ix (fun Γ => rdv Γ 0) (fun _ => M.ret (D.int 0))) Γ) ((fun Γ => consM ((fun _ => M.ret (D.int 40)) Γ) ((fun _ => M.ret []) Γ)) Γ)) Γ) (callK 2 f_fits_row)) Γ) ((fun Γ => M.bnd ((fun Γ => consM ((bin D.ix (fun Γ => rdv Γ 0) (fun _ => M.ret (D.int 1))) Γ) ((fun Γ => consM ((fun _ => M.ret (D.int 0)) Γ) ((fun Γ => consM ((fun _ => M.ret (D.int 3)) Γ) ((fun _ => M.ret []) Γ)) Γ)) Γ)) Γ) (callK 3 f_is_whole)) Γ))))
def f_is_card : List D → M D := runD 1 m_is_card
theorem ok_is_card (T : Tx K mg) (TB : TBs K mg base tfL) : OkF (gx K) P w K mg base 2 "is_card" ["value"] f_is_card := by
  refine okF (g := gx K) (N := ["value"]) (m := m_is_card) (k := 1) T.d_is_card sc_is_card (by decide) (fun _ _ _ _ _ _ us hl => match us, hl with | [_], _ => rfl) (fun f cdv A outer s H E hr => ?_)
  have h : PDSs (gx K) E (cxOf (L2N.CX P w) P w K mg base ["value"] "is_card" (defScope s_is_card) f cdv A outer s H E) (defBody s_is_card) _ _ := (pds_cons (pds_if (PDW.pt (pw_o (pt_n (pt_v (pd_callB call_isi cd_isi T.z_isinstance boot_isinstance (pab_c (PD.pb (pd_v (pv 0))) (pab_c (PD.pb (pd_ty T.z_tuple boot_tuple)) pab_n))))) (pw_o1 (pt_ne hr (PD.pb (pd_callB cl_len cd_len T.z_len boot_len (pab_c (PD.pb (pd_v (pv 0))) pab_n))) (PD.pb pd_int))))) (pds_one (pds_ret pd_bl)) pds_nil)
      (pds_one (pds_ret (pd_and (pd_f (ok_fits_row T TB) hr (by decide) (L2N.passes_call (L2N.takes_of rfl rfl rfl rfl) (fun _ _ _ _ h => h)) (pa_c (pd_ix (PD.pb (pd_v (pv 0))) (PD.pb pd_int)) (pa_c (pd_gi T.c_ROUNDS) pa_n))) (pd_one (pd_f (ok_is_whole T TB) hr (by decide) (L2N.passes_call (L2N.takes_of rfl rfl rfl rfl) (fun _ _ _ _ h => h)) (pa_c (pd_ix (PD.pb (pd_v (pv 0))) (PD.pb pd_int)) (pa_c pd_int (pa_c pd_int pa_n)))))))))
  exact ⟨_, h⟩
def c_need_cards_1 : Ga → M (List D) := (compM [1] (fun Γ => M.bnd ((fun Γ => rdv Γ 0) Γ) itemsK) (gN 1) (fun _ => M.ret true) (fun Γ => M.bnd ((fun Γ => consM ((fun Γ => rdv Γ 1) Γ) ((fun _ => M.ret []) Γ)) Γ) (callK 1 f_is_card)))
def m_need_cards_1 : Ga → M Fl := (fun Γ => ifM ((fun Γ => orM ((fun Γ => notM ((fun Γ => M.bnd ((fun Γ => M.bnd ((fun Γ => consM ((fun Γ => rdv Γ 0) Γ) ((fun Γ => consM ((fun _ => M.ret (D.obj (.ty "tuple"))) Γ) ((fun _ => M.ret []) Γ)) Γ)) Γ) fun xs => opt (D.isi xs)) Γ) asB) Γ)) Γ) ((fun Γ => orM ((fun Γ => M.bnd (bin D.gt (fun Γ => M.bnd ((fun Γ => consM ((fun Γ => rdv Γ 0) Γ) ((fun _ => M.ret []) Γ)) Γ) fun xs => opt (D.len xs)) (fun _ => M.ret (D.int 4)) Γ) asB) Γ) ((fun Γ => notM ((fun Γ => M.bnd ((fun Γ => M.bnd ((fun Γ => consM ((lstOf c_need_cards_1) Γ) ((fun _ => M.ret []) Γ)) Γ) fun xs => opt (D.all xs)) Γ) asB) Γ)) Γ)) Γ)) Γ) ((fun _ => raise "InvalidCards") Γ) (nxM Γ))
def m_need_cards : Ga → M Fl := m_need_cards_1
def f_need_cards : List D → M D := runD 2 m_need_cards
theorem ok_need_cards (T : Tx K mg) (TB : TBs K mg base tfL) : OkF (gx K) P w K mg base 3 "need_cards" ["value"] f_need_cards := by
  refine okF (g := gx K) (N := ["value", "card"]) (m := m_need_cards) (k := 2) T.d_need_cards sc_need_cards (by decide) (fun _ _ _ _ _ _ us hl => match us, hl with | [_], _ => rfl) (fun f cdv A outer s H E hr => ?_)
  have h : PDSs (gx K) E (cxOf (L2N.CX P w) P w K mg base ["value", "card"] "need_cards" (defScope s_need_cards) f cdv A outer s H E) (defBody s_need_cards) _ _ := (pds_one (pds_if (PDW.pt (pw_o (pt_n (pt_v (pd_callB call_isi cd_isi T.z_isinstance boot_isinstance (pab_c (PD.pb (pd_v (pv 0))) (pab_c (PD.pb (pd_ty T.z_tuple boot_tuple)) pab_n))))) (pw_o (pt_cmp op_gt od_gt (PD.pb (pd_callB cl_len cd_len T.z_len boot_len (pab_c (PD.pb (pd_v (pv 0))) pab_n))) (PD.pb pd_int)) (pw_o1 (pt_n (pt_v (pd_callB (cr_all rfl) cd_all T.z_all boot_all (pab_c (PD.pb (PN.pd (pn_lc rfl sc_need_cards.nd (pi_any (pd_v (pv 0))) (blkOk_by (own := [("card", 1)]) (by kernel_rfl)) (fun s H C cl fp => ⟨_, (pg_n (pg_name (i := 1) sc_need_cards.nd rfl (by first | exact Or.inl rfl | exact Or.inr rfl))), (own_n (by decide)), mono_n⟩) (fun s H C cl fp => ⟨_, pdts_n⟩) (fun s H C cl fp => ⟨_, (pd_f (ok_is_card T TB) hr (by decide) passN (pa_c (pd_v (pv 1)) pa_n))⟩)))) pab_n)))))))) (pds_one (pds_raise (c := "InvalidCards") rfl (L2N.takes_of rfl rfl rfl rfl) (L2N.pmk_own PySem.F.excBase_ValueError T.x_InvalidCards.1 T.g_InvalidCards T.x_InvalidCards.2.1 (raises_own T.x_InvalidCards.2.2.1 T.x_InvalidCards.2.2.2) rfl) rfl (fun _ _ h => h))) pds_nil))
  exact ⟨_, h⟩
def c_all_rules_1 : Ga → M (List D) := (compM [5] (fun Γ => M.bnd ((fun Γ => consM ((fun _ => M.ret (D.int 4)) Γ) ((fun _ => M.ret []) Γ)) Γ) rng1K) (gN 5) (fun _ => M.ret true) (fun Γ => M.bnd ((fun Γ => consM ((fun Γ => rdv Γ 1) Γ) ((fun Γ => consM ((fun Γ => rdv Γ 2) Γ) ((fun Γ => consM ((fun Γ => rdv Γ 3) Γ) ((fun Γ => consM ((fun Γ => rdv Γ 4) Γ) ((fun Γ => consM ((fun Γ => rdv Γ 5) Γ) ((fun _ => M.ret []) Γ)) Γ)) Γ)) Γ)) Γ)) Γ) tupK))
def b_all_rules_1 : Ga → M Fl := (asgM (bin D.add (fun Γ => rdv Γ 0) (lstOf c_all_rules_1)) (gN 0))
def m_all_rules_1 : Ga → M Fl := (forM' (fun Γ => M.bnd ((fun Γ => consM ((fun _ => M.ret (D.int 1)) Γ) ((fun Γ => consM ((fun _ => M.ret (D.int 4)) Γ) ((fun _ => M.ret []) Γ)) Γ)) Γ) rng2K) (gN 4) b_all_rules_1)
def b_all_rules_2 : Ga → M Fl := m_all_rules_1
def m_all_rules_2 : Ga → M Fl := (forM' (fun Γ => M.bnd ((fun _ => M.ret (D.tup ([("down" : Str), ("up" : Str)].map D.str))) Γ) itemsK) (gN 3) b_all_rules_2)
def b_all_rules_3 : Ga → M Fl := m_all_rules_2
def m_all_rules_3 : Ga → M Fl := (forM' (fun Γ => M.bnd ((fun Γ => consM ((fun _ => M.ret (D.int 1)) Γ) ((fun Γ => consM ((bin D.add (fun Γ => rdv Γ 1) (fun _ => M.ret (D.int 1))) Γ) ((fun _ => M.ret []) Γ)) Γ)) Γ) rng2K) (gN 2) b_all_rules_3)
def b_all_rules_4 : Ga → M Fl := m_all_rules_3
def m_all_rules_4 : Ga → M Fl := (forM' (fun Γ => M.bnd ((fun Γ => consM ((fun _ => M.ret (D.int 1)) Γ) ((fun Γ => consM ((bin D.add (fun _ => M.ret (D.int 3)) (fun _ => M.ret (D.int 1))) Γ) ((fun _ => M.ret []) Γ)) Γ)) Γ) rng2K) (gN 1) b_all_rules_4)
def m_all_rules : Ga → M Fl := (seqM (asgM (fun Γ => M.bnd ((fun _ => M.ret []) Γ) lstK) (gN 0))
  (seqM m_all_rules_4
  (retM (fun Γ => rdv Γ 0))))
def f_all_rules : List D → M D := runD 6 m_all_rules
theorem ok_all_rules (T : Tx K mg) (TB : TBs K mg base tfL) : OkF (gx K) P w K mg base 1 "all_rules" [] f_all_rules := by
  refine okF (g := gx K) (N := ["found", "many", "best", "word", "rise", "drop"]) (m := m_all_rules) (k := 0) T.d_all_rules sc_all_rules (by decide) (fun _ _ _ _ _ _ us hl => match us, hl with | [], _ => rfl) (fun f cdv A outer s H E hr => ?_)
  have h : PDSs (gx K) E (cxOf (L2N.CX P w) P w K mg base ["found", "many", "best", "word", "rise", "drop"] "all_rules" (defScope s_all_rules) f cdv A outer s H E) (defBody s_all_rules) _ _ := (pds_cons (pds_st (i := 0) sc_all_rules.nd rfl (by first | exact Or.inl rfl | exact Or.inr rfl) (pd_lst pa_n))
      (pds_cons (pds_for (passes_of rfl) rfl (pi_r2 T.z_range (pa_c pd_int (pa_c (pd_op op_addD od_add (PD.pb (pd_gi T.c_MOST)) (PD.pb pd_int)) pa_n))) (pg_n (pg_name (i := 1) sc_all_rules.nd rfl (by first | exact Or.inl rfl | exact Or.inr rfl))) (pds_one (pds_for (passes_of rfl) rfl (pi_r2 T.z_range (pa_c pd_int (pa_c (pd_op op_addD od_add (PD.pb (pd_v (pv 1))) (PD.pb pd_int)) pa_n))) (pg_n (pg_name (i := 2) sc_all_rules.nd rfl (by first | exact Or.inl rfl | exact Or.inr rfl))) (pds_one (pds_for (passes_of rfl) rfl (pi_any (pd_gt (xs := ["down", "up"]) T.g_WORDS T.t_WORDS)) (pg_n (pg_name (i := 3) sc_all_rules.nd rfl (by first | exact Or.inl rfl | exact Or.inr rfl))) (pds_one (pds_for (passes_of rfl) rfl (pi_r2 T.z_range (pa_c pd_int (pa_c pd_int pa_n))) (pg_n (pg_name (i := 4) sc_all_rules.nd rfl (by first | exact Or.inl rfl | exact Or.inr rfl))) (pds_one (pds_st (i := 0) sc_all_rules.nd rfl (by first | exact Or.inl rfl | exact Or.inr rfl) (pd_op op_addD od_add (PD.pb (pd_v (pv 0))) (PD.pb (PN.pd (pn_lc rfl sc_all_rules.nd (pi_r1 T.z_range (pa_c pd_int pa_n)) (blkOk_by (own := [("drop", 5)]) (by kernel_rfl)) (fun s H C cl fp => ⟨_, (pg_n (pg_name (i := 5) sc_all_rules.nd rfl (by first | exact Or.inl rfl | exact Or.inr rfl))), (own_n (by decide)), mono_n⟩) (fun s H C cl fp => ⟨_, pdts_n⟩) (fun s H C cl fp => ⟨_, (pd_tup (pa_c (pd_v (pv 1)) (pa_c (pd_v (pv 2)) (pa_c (pd_v (pv 3)) (pa_c (pd_v (pv 4)) (pa_c (pd_v (pv 5)) pa_n))))))⟩))))))))))))))
      (pds_one (pds_ret (pd_v (pv 0))))))
  exact ⟨_, h⟩
def c_fitting_1 : Ga → M (List D) := (compM [3, 4] (fun Γ => M.bnd ((fun Γ => rdv Γ 1) Γ) itemsK) (gT 2 (gsCons (gN 3) (gsCons (gN 4) gsNil))) (fun _ => M.ret true) (bin D.eq (fun Γ => M.bnd ((fun Γ => consM ((fun Γ => rdv Γ 2) Γ) ((fun Γ => consM ((fun Γ => rdv Γ 0) Γ) ((fun Γ => consM ((fun Γ => rdv Γ 3) Γ) ((fun _ => M.ret []) Γ)) Γ)) Γ)) Γ) (callK 3 f_given_behind)) (fun Γ => rdv Γ 4)))
def c_fitting_2 : Ga → M (List D) := (compM [2] (fun Γ => M.bnd ((fun Γ => M.bnd (M.ret []) (callK 0 f_all_rules)) Γ) itemsK) (gN 2) (fun Γ => M.bnd ((fun Γ => M.bnd ((fun Γ => consM ((lstOf c_fitting_1) Γ) ((fun _ => M.ret []) Γ)) Γ) fun xs => opt (D.all xs)) Γ) asB) (fun Γ => rdv Γ 2))
def m_fitting : Ga → M Fl := (retM (lstOf c_fitting_2))
def f_fitting : List D → M D := runD 5 m_fitting
theorem ok_fitting (T : Tx K mg) (TB : TBs K mg base tfL) : OkF (gx K) P w K mg base 4 "fitting" ["start", "cards"] f_fitting := by
  refine okF (g := gx K) (N := ["start", "cards", "rule", "row", "goal"]) (m := m_fitting) (k := 3) T.d_fitting sc_fitting (by decide) (fun _ _ _ _ _ _ us hl => match us, hl with | [_, _], _ => rfl) (fun f cdv A outer s H E hr => ?_)
  have h : PDSs (gx K) E (cxOf (L2N.CX P w) P w K mg base ["start", "cards", "rule", "row", "goal"] "fitting" (defScope s_fitting) f cdv A outer s H E) (defBody s_fitting) _ _ := (pds_one (pds_ret (PN.pd (pn_lc rfl sc_fitting.nd (pi_any (pd_f0 (ok_all_rules T TB) hr (by decide) (L2N.passes_call (L2N.takes_of rfl rfl rfl rfl) (fun _ _ _ _ h => h)))) (blkOk_by (own := [("rule", 2)]) (by kernel_rfl)) (fun s H C cl fp => ⟨_, (pg_n (pg_name (i := 2) sc_fitting.nd rfl (by first | exact Or.inl rfl | exact Or.inr rfl))), (own_n (by decide)), mono_n⟩) (fun s H C cl fp => ⟨_, (pdts_1 (pt_v (pd_callB (cr_all rfl) cd_all T.z_all boot_all (pab_c (PD.pb (PN.pd (pn_lc rfl sc_fitting.nd (pi_any (pd_v (pv 1))) (blkOk_by (own := [("row", 3), ("goal", 4)]) (by kernel_rfl)) (fun s H C cl fp => ⟨_, (pg_t (n := 2) rfl (pgs_c (pg_n (pg_name (i := 3) sc_fitting.nd rfl (by first | exact Or.inl rfl | exact Or.inr rfl))) (pgs_c (pg_n (pg_name (i := 4) sc_fitting.nd rfl (by first | exact Or.inl rfl | exact Or.inr rfl))) pgs_n))), (own_t (owns_cons (own_n (by decide)) mono_n (owns_cons (own_n (by decide)) mono_n owns_nil mono_nil) (mono_cons mono_n mono_nil))), (mono_t (mono_cons mono_n (mono_cons mono_n mono_nil)))⟩) (fun s H C cl fp => ⟨_, pdts_n⟩) (fun s H C cl fp => ⟨_, (pd_eq hr (PD.pb (pd_f (ok_given_behind T TB) hr (by decide) passN (pa_c (pd_v (pv 2)) (pa_c (pd_v (pv 0)) (pa_c (pd_v (pv 3)) pa_n))))) (PD.pb (pd_v (pv 4))))⟩)))) pab_n))))⟩) (fun s H C cl fp => ⟨_, (pd_v (pv 2))⟩)))))
  exact ⟨_, h⟩
def m_rules_told : Ga → M Fl := (seqM (dropM (fun Γ => M.bnd ((fun Γ => consM ((fun Γ => rdv Γ 0) Γ) ((fun _ => M.ret []) Γ)) Γ) (callK 1 f_need_start)))
  (seqM (dropM (fun Γ => M.bnd ((fun Γ => consM ((fun Γ => rdv Γ 1) Γ) ((fun _ => M.ret []) Γ)) Γ) (callK 1 f_need_cards)))
  (retM (fun Γ => M.bnd ((fun Γ => consM ((fun Γ => rdv Γ 0) Γ) ((fun Γ => consM ((fun Γ => rdv Γ 1) Γ) ((fun _ => M.ret []) Γ)) Γ)) Γ) (callK 2 f_fitting)))))
def f_rules_told : List D → M D := runD 2 m_rules_told
theorem ok_rules_told (T : Tx K mg) (TB : TBs K mg base tfL) : OkF (gx K) P w K mg base 5 "rules_told" ["start", "cards"] f_rules_told := by
  refine okF (g := gx K) (N := ["start", "cards"]) (m := m_rules_told) (k := 4) T.d_rules_told sc_rules_told (by decide) (fun _ _ _ _ _ _ us hl => match us, hl with | [_, _], _ => rfl) (fun f cdv A outer s H E hr => ?_)
  have h : PDSs (gx K) E (cxOf (L2N.CX P w) P w K mg base ["start", "cards"] "rules_told" (defScope s_rules_told) f cdv A outer s H E) (defBody s_rules_told) _ _ := (pds_cons (pds_expr (pd_f (ok_need_start T TB) hr (by decide) (L2N.passes_call (L2N.takes_of rfl rfl rfl rfl) (fun _ _ _ _ h => h)) (pa_c (pd_v (pv 0)) pa_n)))
      (pds_cons (pds_expr (pd_f (ok_need_cards T TB) hr (by decide) (L2N.passes_call (L2N.takes_of rfl rfl rfl rfl) (fun _ _ _ _ h => h)) (pa_c (pd_v (pv 1)) pa_n)))
      (pds_one (pds_ret (pd_f (ok_fitting T TB) hr (by decide) (L2N.passes_call (L2N.takes_of rfl rfl rfl rfl) (fun _ _ _ _ h => h)) (pa_c (pd_v (pv 0)) (pa_c (pd_v (pv 1)) pa_n)))))))
  exact ⟨_, h⟩
def c_surely_1 : Ga → M (List D) := (compM [4] (fun Γ => M.bnd ((fun Γ => M.bnd ((fun Γ => consM ((fun Γ => rdv Γ 0) Γ) ((fun Γ => consM ((fun Γ => rdv Γ 1) Γ) ((fun _ => M.ret []) Γ)) Γ)) Γ) (callK 2 f_fitting)) Γ) itemsK) (gN 4) (fun _ => M.ret true) (fun Γ => M.bnd ((fun Γ => consM ((fun Γ => rdv Γ 4) Γ) ((fun Γ => consM ((fun Γ => rdv Γ 0) Γ) ((fun Γ => consM ((fun Γ => rdv Γ 2) Γ) ((fun _ => M.ret []) Γ)) Γ)) Γ)) Γ) (callK 3 f_given_behind)))
def m_surely : Ga → M Fl := (seqM (dropM (fun Γ => M.bnd ((fun Γ => consM ((fun Γ => rdv Γ 0) Γ) ((fun _ => M.ret []) Γ)) Γ) (callK 1 f_need_start)))
  (seqM (dropM (fun Γ => M.bnd ((fun Γ => consM ((fun Γ => rdv Γ 1) Γ) ((fun _ => M.ret []) Γ)) Γ) (callK 1 f_need_cards)))
  (seqM (dropM (fun Γ => M.bnd ((fun Γ => consM ((fun Γ => rdv Γ 2) Γ) ((fun _ => M.ret []) Γ)) Γ) (callK 1 f_need_row)))
  (seqM (asgM (un1 D.sset (lstOf c_surely_1)) (gN 3))
  (retM (fun Γ => ifM ((fun Γ => M.bnd (bin D.eq (fun Γ => M.bnd ((fun Γ => consM ((fun Γ => rdv Γ 3) Γ) ((fun _ => M.ret []) Γ)) Γ) fun xs => opt (D.len xs)) (fun _ => M.ret (D.int 1)) Γ) asB) Γ) ((bin D.ix (fun Γ => rdv Γ 3) (fun _ => M.ret (D.int 0))) Γ) ((fun _ => M.ret D.non) Γ)))))))
def f_surely : List D → M D := runD 5 m_surely
theorem ok_surely (T : Tx K mg) (TB : TBs K mg base tfL) : OkF (gx K) P w K mg base 5 "surely" ["start", "cards", "row"] f_surely := by
  refine okF (g := gx K) (N := ["start", "cards", "row", "some", "rule"]) (m := m_surely) (k := 4) T.d_surely sc_surely (by decide) (fun _ _ _ _ _ _ us hl => match us, hl with | [_, _, _], _ => rfl) (fun f cdv A outer s H E hr => ?_)
  have h : PDSs (gx K) E (cxOf (L2N.CX P w) P w K mg base ["start", "cards", "row", "some", "rule"] "surely" (defScope s_surely) f cdv A outer s H E) (defBody s_surely) _ _ := (pds_cons (pds_expr (pd_f (ok_need_start T TB) hr (by decide) (L2N.passes_call (L2N.takes_of rfl rfl rfl rfl) (fun _ _ _ _ h => h)) (pa_c (pd_v (pv 0)) pa_n)))
      (pds_cons (pds_expr (pd_f (ok_need_cards T TB) hr (by decide) (L2N.passes_call (L2N.takes_of rfl rfl rfl rfl) (fun _ _ _ _ h => h)) (pa_c (pd_v (pv 1)) pa_n)))
      (pds_cons (pds_expr (pd_f (ok_need_row T TB) hr (by decide) (L2N.passes_call (L2N.takes_of rfl rfl rfl rfl) (fun _ _ _ _ h => h)) (pa_c (pd_v (pv 2)) pa_n)))
      (pds_cons (pds_st (i := 3) sc_surely.nd rfl (by first | exact Or.inl rfl | exact Or.inr rfl) (pd_sset rfl T.z_sorted T.z_set (PD.pb (PN.pd (pn_lc rfl sc_surely.nd (pi_any (pd_f (ok_fitting T TB) hr (by decide) (L2N.passes_call (L2N.takes_of rfl rfl rfl rfl) (fun _ _ _ _ h => h)) (pa_c (pd_v (pv 0)) (pa_c (pd_v (pv 1)) pa_n)))) (blkOk_by (own := [("rule", 4)]) (by kernel_rfl)) (fun s H C cl fp => ⟨_, (pg_n (pg_name (i := 4) sc_surely.nd rfl (by first | exact Or.inl rfl | exact Or.inr rfl))), (own_n (by decide)), mono_n⟩) (fun s H C cl fp => ⟨_, pdts_n⟩) (fun s H C cl fp => ⟨_, (pd_f (ok_given_behind T TB) hr (by decide) passN (pa_c (pd_v (pv 4)) (pa_c (pd_v (pv 0)) (pa_c (pd_v (pv 2)) pa_n))))⟩))))))
      (pds_one (pds_ret (pd_if (pt_eq hr (PD.pb (pd_callB cl_len cd_len T.z_len boot_len (pab_c (PD.pb (pd_v (pv 3))) pab_n))) (PD.pb pd_int)) (pd_ix (PD.pb (pd_v (pv 3))) (PD.pb pd_int)) pd_non)))))))
  exact ⟨_, h⟩
def m__law_cell_1 : Ga → M Fl := (fun Γ => ifM ((fun Γ => M.bnd (bin D.lt (fun Γ => rdv Γ 1) (fun Γ => M.bnd ((fun Γ => consM ((fun Γ => rdv Γ 0) Γ) ((fun _ => M.ret []) Γ)) Γ) fun xs => opt (D.len xs)) Γ) asB) Γ) ((retM (bin D.ix (fun Γ => rdv Γ 0) (fun Γ => rdv Γ 1))) Γ) (nxM Γ))
def m__law_cell_2 : Ga → M Fl := (fun Γ => ifM ((fun Γ => M.bnd (bin D.eq (fun Γ => M.bnd ((fun Γ => consM ((fun Γ => rdv Γ 0) Γ) ((fun _ => M.ret []) Γ)) Γ) fun xs => opt (D.len xs)) (fun _ => M.ret (D.int 0)) Γ) asB) Γ) ((retM (bin D.add (bin D.mul (fun _ => M.ret (D.int 7919)) (fun Γ => rdv Γ 1)) (fun _ => M.ret (D.int 101)))) Γ) (nxM Γ))
def m__law_cell : Ga → M Fl := (seqM m__law_cell_1
  (seqM m__law_cell_2
  (retM (bin D.add (bin D.mod (bin D.ix (fun Γ => rdv Γ 0) (bin D.mod (fun Γ => rdv Γ 1) (fun Γ => M.bnd ((fun Γ => consM ((fun Γ => rdv Γ 0) Γ) ((fun _ => M.ret []) Γ)) Γ) fun xs => opt (D.len xs)))) (fun _ => M.ret (D.int 1000003))) (bin D.mul (fun _ => M.ret (D.int 7919)) (fun Γ => rdv Γ 1))))))
def f__law_cell : List D → M D := runD 2 m__law_cell
theorem ok__law_cell (T : Tx K mg) (TB : TBs K mg base tfL) : OkF (gx K) P w K mg base 1 "_law_cell" ["script", "k"] f__law_cell := by
  refine okF (g := gx K) (N := ["script", "k"]) (m := m__law_cell) (k := 0) T.d__law_cell sc__law_cell (by decide) (fun _ _ _ _ _ _ us hl => match us, hl with | [_, _], _ => rfl) (fun f cdv A outer s H E hr => ?_)
  have h : PDSs (gx K) E (cxOf (L2N.CX P w) P w K mg base ["script", "k"] "_law_cell" (defScope s__law_cell) f cdv A outer s H E) (defBody s__law_cell) _ _ := (pds_cons (pds_if (pt_cmp op_lt od_lt (PD.pb (pd_v (pv 1))) (PD.pb (pd_callB cl_len cd_len T.z_len boot_len (pab_c (PD.pb (pd_v (pv 0))) pab_n)))) (pds_one (pds_ret (pd_ix (PD.pb (pd_v (pv 0))) (PD.pb (pd_v (pv 1)))))) pds_nil)
      (pds_cons (pds_if (pt_eq hr (PD.pb (pd_callB cl_len cd_len T.z_len boot_len (pab_c (PD.pb (pd_v (pv 0))) pab_n))) (PD.pb pd_int)) (pds_one (pds_ret (pd_op op_addD od_add (PD.pb (pd_op op_mul od_mul (PD.pb pd_int) (PD.pb (pd_v (pv 1))))) (PD.pb pd_int)))) pds_nil)
      (pds_one (pds_ret (pd_op op_addD od_add (PD.pb (pd_op op_mod od_mod (PD.pb (pd_ix (PD.pb (pd_v (pv 0))) (PD.pb (pd_op op_mod od_mod (PD.pb (pd_v (pv 1))) (PD.pb (pd_callB cl_len cd_len T.z_len boot_len (pab_c (PD.pb (pd_v (pv 0))) pab_n))))))) (PD.pb pd_int))) (PD.pb (pd_op op_mul od_mul (PD.pb pd_int) (PD.pb (pd_v (pv 1))))))))))
  exact ⟨_, h⟩
def m__law_draws_1 : Ga → M Fl := (fun Γ => ifM ((fun Γ => M.bnd (bin D.ge (fun Γ => rdv Γ 5) (bin D.pow (fun _ => M.ret (D.int 10)) (fun _ => M.ret (D.int 18))) Γ) asB) Γ) ((asgM (fun Γ => rdv Γ 5) (gN 6)) Γ) (nxM Γ))
def m__law_draws_2 : Ga → M Fl := (fun Γ => ifM ((fun Γ => M.bnd (bin D.gt (fun Γ => rdv Γ 6) (fun _ => M.ret (D.int 0)) Γ) asB) Γ) ((asgM (fun Γ => rdv Γ 6) (gN 9)) Γ) (nxM Γ))
def b__law_draws_1 : Ga → M Fl := (seqM (asgM (bin D.mul (bin D.mod (fun Γ => rdv Γ 5) (bin D.ix (fun Γ => rdv Γ 4) (bin D.mod (fun Γ => rdv Γ 8) (fun _ => M.ret (D.int 8))))) (bin D.add (fun _ => M.ret (D.int 48271)) (bin D.mul (bin D.mul (fun _ => M.ret (D.int 2)) (fun Γ => rdv Γ 8)) (fun Γ => rdv Γ 8)))) (gN 9))
  (seqM (asgM (bin D.add (bin D.add (fun Γ => rdv Γ 9) (bin D.mul (bin D.mul (fun _ => M.ret (D.int 7919)) (bin D.add (fun Γ => rdv Γ 8) (fun _ => M.ret (D.int 1)))) (bin D.add (fun Γ => rdv Γ 8) (fun _ => M.ret (D.int 1))))) (bin D.mul (fun _ => M.ret (D.int 104729)) (fun Γ => rdv Γ 1))) (gN 9))
  (seqM (asgM (bin D.mod (fun Γ => rdv Γ 9) (bin D.ix (fun Γ => rdv Γ 4) (bin D.mod (bin D.add (bin D.mul (fun _ => M.ret (D.int 3)) (fun Γ => rdv Γ 8)) (fun Γ => rdv Γ 1)) (fun _ => M.ret (D.int 8))))) (gN 9))
  (seqM (asgM (bin D.mod (bin D.mul (bin D.mul (fun Γ => rdv Γ 9) (fun Γ => rdv Γ 9)) (fun Γ => rdv Γ 9)) (bin D.ix (fun Γ => rdv Γ 4) (bin D.mod (bin D.add (fun Γ => rdv Γ 8) (fun _ => M.ret (D.int 5))) (fun _ => M.ret (D.int 8))))) (gN 9))
  (seqM m__law_draws_2
  (seqM (appM 7 (bin D.mod (fun Γ => rdv Γ 9) (fun Γ => rdv Γ 3)))
  (asgM (bin D.fdiv (fun Γ => rdv Γ 6) (fun Γ => rdv Γ 3)) (gN 6))))))))
def m__law_draws_3 : Ga → M Fl := (forM' (fun Γ => M.bnd ((fun Γ => consM ((fun Γ => rdv Γ 2) Γ) ((fun _ => M.ret []) Γ)) Γ) rng1K) (gN 8) b__law_draws_1)
def m__law_draws : Ga → M (List D) := (rsM (asgM (fun Γ => M.bnd ((fun Γ => consM ((fun _ => M.ret (D.int 2147483647)) Γ) ((fun Γ => consM ((fun _ => M.ret (D.int 2147483629)) Γ) ((fun Γ => consM ((fun _ => M.ret (D.int 2147483587)) Γ) ((fun Γ => consM ((fun _ => M.ret (D.int 2147483579)) Γ) ((fun Γ => consM ((fun _ => M.ret (D.int 2147483563)) Γ) ((fun Γ => consM ((fun _ => M.ret (D.int 2147483549)) Γ) ((fun Γ => consM ((fun _ => M.ret (D.int 2147483543)) Γ) ((fun Γ => consM ((fun _ => M.ret (D.int 2147483497)) Γ) ((fun _ => M.ret []) Γ)) Γ)) Γ)) Γ)) Γ)) Γ)) Γ)) Γ)) Γ) tupK) (gN 4))
  (rsM (asgM (fun Γ => M.bnd ((fun Γ => consM ((fun Γ => rdv Γ 0) Γ) ((fun Γ => consM ((fun Γ => rdv Γ 1) Γ) ((fun _ => M.ret []) Γ)) Γ)) Γ) (callK 2 f__law_cell)) (gN 5))
  (rsM (asgM (fun _ => M.ret (D.int 0)) (gN 6))
  (rsM m__law_draws_1
  (rsM (ownM 7 (fun Γ => M.bnd ((fun _ => M.ret []) Γ) lenK))
  (rsM m__law_draws_3
  (roM 7)))))))
def f__law_draws : List D → M (List D) := runN 10 m__law_draws
theorem ok__law_draws (T : Tx K mg) (TB : TBs K mg base tfL) : OkN (gx K) P w K mg base 2 "_law_draws" ["script", "k", "many", "base"] f__law_draws := by
  refine okN (g := gx K) (N := ["script", "k", "many", "base", "primes", "cell", "rest", "row", "j", "mash"]) (m := m__law_draws) (k := 1) T.d__law_draws sc__law_draws (by decide) (fun _ _ _ _ _ _ us hl => match us, hl with | [_, _, _, _], _ => rfl) (fun f cdv A outer s H E hr => ?_)
  have h : PRS (gx K) E (cxOf (L2N.CX P w) P w K mg base ["script", "k", "many", "base", "primes", "cell", "rest", "row", "j", "mash"] "_law_draws" (defScope s__law_draws) f cdv A outer s H E) (defBody s__law_draws) _ _ := (prs_cons (pds_st (i := 4) sc__law_draws.nd rfl (by first | exact Or.inl rfl | exact Or.inr rfl) (pd_tup (pa_c pd_int (pa_c pd_int (pa_c pd_int (pa_c pd_int (pa_c pd_int (pa_c pd_int (pa_c pd_int (pa_c pd_int pa_n))))))))))
      (prs_cons (pds_st (i := 5) sc__law_draws.nd rfl (by first | exact Or.inl rfl | exact Or.inr rfl) (pd_f (ok__law_cell T TB) hr (by decide) (L2N.passes_call (L2N.takes_of rfl rfl rfl rfl) (fun _ _ _ _ h => h)) (pa_c (pd_v (pv 0)) (pa_c (pd_v (pv 1)) pa_n))))
      (prs_cons (pds_st (i := 6) sc__law_draws.nd rfl (by first | exact Or.inl rfl | exact Or.inr rfl) pd_int)
      (prs_cons (pds_if (pt_cmp op_ge od_ge (PD.pb (pd_v (pv 5))) (PD.pb (pd_op op_pow od_pow (PD.pb pd_int) (PD.pb pd_int)))) (pds_one (pds_st (i := 6) sc__law_draws.nd rfl (by first | exact Or.inl rfl | exact Or.inr rfl) (pd_v (pv 5)))) pds_nil)
      (prs_cons (pds_ow (i := 7) sc__law_draws.nd rfl (by first | exact Or.inl rfl | exact Or.inr rfl) (pn_lst pa_n))
      (prs_cons (pds_for (passes_of rfl) rfl (pi_r1 T.z_range (pa_c (pd_v (pv 2)) pa_n)) (pg_n (pg_name (i := 8) sc__law_draws.nd rfl (by first | exact Or.inl rfl | exact Or.inr rfl))) (pds_cons (pds_st (i := 9) sc__law_draws.nd rfl (by first | exact Or.inl rfl | exact Or.inr rfl) (pd_op op_mul od_mul (PD.pb (pd_op op_mod od_mod (PD.pb (pd_v (pv 5))) (PD.pb (pd_ix (PD.pb (pd_v (pv 4))) (PD.pb (pd_op op_mod od_mod (PD.pb (pd_v (pv 8))) (PD.pb pd_int))))))) (PD.pb (pd_op op_addD od_add (PD.pb pd_int) (PD.pb (pd_op op_mul od_mul (PD.pb (pd_op op_mul od_mul (PD.pb pd_int) (PD.pb (pd_v (pv 8))))) (PD.pb (pd_v (pv 8)))))))))
      (pds_cons (pds_st (i := 9) sc__law_draws.nd rfl (by first | exact Or.inl rfl | exact Or.inr rfl) (pd_op op_addD od_add (PD.pb (pd_op op_addD od_add (PD.pb (pd_v (pv 9))) (PD.pb (pd_op op_mul od_mul (PD.pb (pd_op op_mul od_mul (PD.pb pd_int) (PD.pb (pd_op op_addD od_add (PD.pb (pd_v (pv 8))) (PD.pb pd_int))))) (PD.pb (pd_op op_addD od_add (PD.pb (pd_v (pv 8))) (PD.pb pd_int))))))) (PD.pb (pd_op op_mul od_mul (PD.pb pd_int) (PD.pb (pd_v (pv 1)))))))
      (pds_cons (pds_st (i := 9) sc__law_draws.nd rfl (by first | exact Or.inl rfl | exact Or.inr rfl) (pd_op op_mod od_mod (PD.pb (pd_v (pv 9))) (PD.pb (pd_ix (PD.pb (pd_v (pv 4))) (PD.pb (pd_op op_mod od_mod (PD.pb (pd_op op_addD od_add (PD.pb (pd_op op_mul od_mul (PD.pb pd_int) (PD.pb (pd_v (pv 8))))) (PD.pb (pd_v (pv 1))))) (PD.pb pd_int)))))))
      (pds_cons (pds_st (i := 9) sc__law_draws.nd rfl (by first | exact Or.inl rfl | exact Or.inr rfl) (pd_op op_mod od_mod (PD.pb (pd_op op_mul od_mul (PD.pb (pd_op op_mul od_mul (PD.pb (pd_v (pv 9))) (PD.pb (pd_v (pv 9))))) (PD.pb (pd_v (pv 9))))) (PD.pb (pd_ix (PD.pb (pd_v (pv 4))) (PD.pb (pd_op op_mod od_mod (PD.pb (pd_op op_addD od_add (PD.pb (pd_v (pv 8))) (PD.pb pd_int))) (PD.pb pd_int)))))))
      (pds_cons (pds_if (pt_cmp op_gt od_gt (PD.pb (pd_v (pv 6))) (PD.pb pd_int)) (pds_one (pds_st (i := 9) sc__law_draws.nd rfl (by first | exact Or.inl rfl | exact Or.inr rfl) (pd_v (pv 6)))) pds_nil)
      (pds_cons (pds_append (pv 7) (pd_op op_mod od_mod (PD.pb (pd_v (pv 9))) (PD.pb (pd_v (pv 3)))))
      (pds_one (pds_st (i := 6) sc__law_draws.nd rfl (by first | exact Or.inl rfl | exact Or.inr rfl) (pd_op op_fdiv od_fdiv (PD.pb (pd_v (pv 6))) (PD.pb (pd_v (pv 3)))))))))))))
      (prs_ret (pv 7))))))))
  exact ⟨_, h⟩
def m__law_bag : Ga → M (List D) := (fun Γ => M.bnd ((fun Γ => consM ((fun Γ => rdv Γ 0) Γ) ((fun Γ => consM ((fun Γ => rdv Γ 1) Γ) ((fun Γ => consM ((fun _ => M.ret (D.int 150)) Γ) ((fun Γ => consM ((fun _ => M.ret (D.int 27720)) Γ) ((fun _ => M.ret []) Γ)) Γ)) Γ)) Γ)) Γ) (callN 4 f__law_draws))
def f__law_bag : List D → M (List D) := runN 2 m__law_bag
theorem ok__law_bag (T : Tx K mg) (TB : TBs K mg base tfL) : OkN (gx K) P w K mg base 3 "_law_bag" ["script", "k"] f__law_bag := by
  refine okN (g := gx K) (N := ["script", "k"]) (m := m__law_bag) (k := 2) T.d__law_bag sc__law_bag (by decide) (fun _ _ _ _ _ _ us hl => match us, hl with | [_, _], _ => rfl) (fun f cdv A outer s H E hr => ?_)
  have h : PRS (gx K) E (cxOf (L2N.CX P w) P w K mg base ["script", "k"] "_law_bag" (defScope s__law_bag) f cdv A outer s H E) (defBody s__law_bag) _ _ := (prs_call (pn_f (ok__law_draws T TB) hr (by decide) (L2N.passes_call (L2N.takes_of rfl rfl rfl rfl) (fun _ _ _ _ h => h)) (noex_runN _ _ _) (pa_c (pd_v (pv 0)) (pa_c (pd_v (pv 1)) (pa_c pd_int (pa_c pd_int pa_n))))))
  exact ⟨_, h⟩
def m__law_take : Ga → M Fl := (seqM (asgM (fun Γ => ifM ((bneM 0) Γ) ((popM 0) Γ) ((fun _ => M.ret (D.int 0)) Γ)) (gN 2))
  (retM (bin D.mod (fun Γ => M.bnd ((fun Γ => consM ((fun Γ => rdv Γ 2) Γ) ((fun _ => M.ret []) Γ)) Γ) fun xs => opt (D.toInt xs)) (fun Γ => rdv Γ 1))))
def f__law_take : List D → M D := runD 3 m__law_take
theorem ok__law_take (T : Tx K mg) (TB : TBs K mg base tfL) : OkF (gx K) P w K mg base 1 "_law_take" ["bag", "many"] f__law_take := by
  refine okF (g := gx K) (N := ["bag", "many", "draw"]) (m := m__law_take) (k := 0) T.d__law_take sc__law_take (by decide) (fun _ _ _ _ _ _ us hl => match us, hl with | [_, _], _ => rfl) (fun f cdv A outer s H E hr => ?_)
  have h : PDSs (gx K) E (cxOf (L2N.CX P w) P w K mg base ["bag", "many", "draw"] "_law_take" (defScope s__law_take) f cdv A outer s H E) (defBody s__law_take) _ _ := (pds_cons (pds_st (i := 2) sc__law_take.nd rfl (by first | exact Or.inl rfl | exact Or.inr rfl) (pd_if (pt_bne (hu65 hr) (pv 0)) (pd_pop (i := 0) (pe_bm PySem.F.plainAttrs_list PySem.F.slot_list_pop PySem.F.type_list_pop mt_popAt (pv 0) (pa_cons pe_int pa_nil))) pd_int))
      (pds_one (pds_ret (pd_op op_mod od_mod (PD.pb (pd_callTy cl_int cd_int T.z_int boot_int (pab_c (PD.pb (pd_v (pv 2))) pab_n))) (PD.pb (pd_v (pv 1)))))))
  exact ⟨_, h⟩
def m__law_choice : Ga → M Fl := (retM (bin D.ix (fun Γ => rdv Γ 1) (fun Γ => M.bnd ((fun Γ => consM ((fun Γ => rdv Γ 0) Γ) ((fun Γ => consM ((fun Γ => M.bnd ((fun Γ => consM ((fun Γ => rdv Γ 1) Γ) ((fun _ => M.ret []) Γ)) Γ) fun xs => opt (D.len xs)) Γ) ((fun _ => M.ret []) Γ)) Γ)) Γ) (callK 2 f__law_take))))
def f__law_choice : List D → M D := runD 2 m__law_choice
theorem ok__law_choice (T : Tx K mg) (TB : TBs K mg base tfL) : OkF (gx K) P w K mg base 2 "_law_choice" ["bag", "some"] f__law_choice := by
  refine okF (g := gx K) (N := ["bag", "some"]) (m := m__law_choice) (k := 1) T.d__law_choice sc__law_choice (by decide) (fun _ _ _ _ _ _ us hl => match us, hl with | [_, _], _ => rfl) (fun f cdv A outer s H E hr => ?_)
  have h : PDSs (gx K) E (cxOf (L2N.CX P w) P w K mg base ["bag", "some"] "_law_choice" (defScope s__law_choice) f cdv A outer s H E) (defBody s__law_choice) _ _ := (pds_one (pds_ret (pd_ix (PD.pb (pd_v (pv 1))) (PD.pb (pd_f (ok__law_take T TB) hr (by decide) (L2N.passes_call (L2N.takes_of rfl rfl rfl rfl) (fun _ _ _ _ h => h)) (pa_c (pd_v (pv 0)) (pa_c (pd_callB cl_len cd_len T.z_len boot_len (pab_c (PD.pb (pd_v (pv 1))) pab_n)) pa_n)))))))
  exact ⟨_, h⟩
def m__law_known : Ga → M Fl := (seqM (asgM (fun Γ => M.bnd ((fun Γ => consM ((fun Γ => M.bnd ((fun Γ => consM ((fun _ => M.ret (D.int 1)) Γ) ((fun Γ => consM ((fun _ => M.ret (D.int 1)) Γ) ((fun Γ => consM ((fun _ => M.ret (D.str "down")) Γ) ((fun Γ => consM ((fun _ => M.ret (D.int 3)) Γ) ((fun Γ => consM ((fun _ => M.ret (D.int 0)) Γ) ((fun _ => M.ret []) Γ)) Γ)) Γ)) Γ)) Γ)) Γ) tupK) Γ) ((fun Γ => consM ((fun Γ => M.bnd ((fun Γ => consM ((fun _ => M.ret (D.int 3)) Γ) ((fun Γ => consM ((fun _ => M.ret (D.int 2)) Γ) ((fun Γ => consM ((fun _ => M.ret (D.str "down")) Γ) ((fun Γ => consM ((fun _ => M.ret (D.int 1)) Γ) ((fun Γ => consM ((fun _ => M.ret (D.int 0)) Γ) ((fun _ => M.ret []) Γ)) Γ)) Γ)) Γ)) Γ)) Γ) tupK) Γ) ((fun Γ => consM ((fun Γ => M.bnd ((fun Γ => consM ((fun _ => M.ret (D.int 2)) Γ) ((fun Γ => consM ((fun _ => M.ret (D.int 1)) Γ) ((fun Γ => consM ((fun _ => M.ret (D.str "up")) Γ) ((fun Γ => consM ((fun _ => M.ret (D.int 3)) Γ) ((fun Γ => consM ((fun _ => M.ret (D.int 2)) Γ) ((fun _ => M.ret []) Γ)) Γ)) Γ)) Γ)) Γ)) Γ) tupK) Γ) ((fun _ => M.ret []) Γ)) Γ)) Γ)) Γ) lstK) (gN 0))
  (retM (bin D.add (fun Γ => rdv Γ 0) (fun Γ => M.bnd ((fun Γ => consM ((fun Γ => M.bnd ((fun Γ => consM ((fun _ => M.ret (D.int 3)) Γ) ((fun Γ => consM ((fun _ => M.ret (D.int 3)) Γ) ((fun Γ => consM ((fun _ => M.ret (D.str "up")) Γ) ((fun Γ => consM ((fun _ => M.ret (D.int 2)) Γ) ((fun Γ => consM ((fun _ => M.ret (D.int 1)) Γ) ((fun _ => M.ret []) Γ)) Γ)) Γ)) Γ)) Γ)) Γ) tupK) Γ) ((fun Γ => consM ((fun Γ => M.bnd ((fun Γ => consM ((fun _ => M.ret (D.int 1)) Γ) ((fun Γ => consM ((fun _ => M.ret (D.int 1)) Γ) ((fun Γ => consM ((fun _ => M.ret (D.str "down")) Γ) ((fun Γ => consM ((fun _ => M.ret (D.int 1)) Γ) ((fun Γ => consM ((fun _ => M.ret (D.int 0)) Γ) ((fun _ => M.ret []) Γ)) Γ)) Γ)) Γ)) Γ)) Γ) tupK) Γ) ((fun Γ => consM ((fun Γ => M.bnd ((fun Γ => consM ((fun _ => M.ret (D.int 3)) Γ) ((fun Γ => consM ((fun _ => M.ret (D.int 1)) Γ) ((fun Γ => consM ((fun _ => M.ret (D.str "down")) Γ) ((fun Γ => consM ((fun _ => M.ret (D.int 3)) Γ) ((fun Γ => consM ((fun _ => M.ret (D.int 0)) Γ) ((fun _ => M.ret []) Γ)) Γ)) Γ)) Γ)) Γ)) Γ) tupK) Γ) ((fun _ => M.ret []) Γ)) Γ)) Γ)) Γ) lstK))))
def f__law_known : List D → M D := runD 1 m__law_known
theorem ok__law_known (T : Tx K mg) (TB : TBs K mg base tfL) : OkF (gx K) P w K mg base 1 "_law_known" [] f__law_known := by
  refine okF (g := gx K) (N := ["some"]) (m := m__law_known) (k := 0) T.d__law_known sc__law_known (by decide) (fun _ _ _ _ _ _ us hl => match us, hl with | [], _ => rfl) (fun f cdv A outer s H E hr => ?_)
  have h : PDSs (gx K) E (cxOf (L2N.CX P w) P w K mg base ["some"] "_law_known" (defScope s__law_known) f cdv A outer s H E) (defBody s__law_known) _ _ := (pds_cons (pds_st (i := 0) sc__law_known.nd rfl (by first | exact Or.inl rfl | exact Or.inr rfl) (pd_lst (pa_c (pd_tup (pa_c pd_int (pa_c pd_int (pa_c pd_str (pa_c pd_int (pa_c pd_int pa_n)))))) (pa_c (pd_tup (pa_c pd_int (pa_c pd_int (pa_c pd_str (pa_c pd_int (pa_c pd_int pa_n)))))) (pa_c (pd_tup (pa_c pd_int (pa_c pd_int (pa_c pd_str (pa_c pd_int (pa_c pd_int pa_n)))))) pa_n)))))
      (pds_one (pds_ret (pd_op op_addD od_add (PD.pb (pd_v (pv 0))) (PD.pb (pd_lst (pa_c (pd_tup (pa_c pd_int (pa_c pd_int (pa_c pd_str (pa_c pd_int (pa_c pd_int pa_n)))))) (pa_c (pd_tup (pa_c pd_int (pa_c pd_int (pa_c pd_str (pa_c pd_int (pa_c pd_int pa_n)))))) (pa_c (pd_tup (pa_c pd_int (pa_c pd_int (pa_c pd_str (pa_c pd_int (pa_c pd_int pa_n)))))) pa_n)))))))))
  exact ⟨_, h⟩
def m__law_rule_1 : Ga → M Fl := (fun Γ => ifM ((fun Γ => M.bnd (bin D.eq (fun Γ => M.bnd ((fun Γ => consM ((fun Γ => rdv Γ 0) Γ) ((fun Γ => consM ((fun _ => M.ret (D.int 6)) Γ) ((fun _ => M.ret []) Γ)) Γ)) Γ) (callK 2 f__law_take)) (fun _ => M.ret (D.int 0)) Γ) asB) Γ) ((retM (fun Γ => M.bnd ((fun Γ => consM ((fun Γ => rdv Γ 0) Γ) ((fun Γ => consM ((fun Γ => M.bnd (M.ret []) (callK 0 f__law_known)) Γ) ((fun _ => M.ret []) Γ)) Γ)) Γ) (callK 2 f__law_choice))) Γ) (nxM Γ))
def m__law_rule : Ga → M Fl := (seqM m__law_rule_1
  (seqM (asgM (bin D.add (fun _ => M.ret (D.int 1)) (fun Γ => M.bnd ((fun Γ => consM ((fun Γ => rdv Γ 0) Γ) ((fun Γ => consM ((fun _ => M.ret (D.int 3)) Γ) ((fun _ => M.ret []) Γ)) Γ)) Γ) (callK 2 f__law_take))) (gN 1))
  (seqM (parM 2 3 (fun Γ => consM ((bin D.add (fun _ => M.ret (D.int 1)) (fun Γ => M.bnd ((fun Γ => consM ((fun Γ => rdv Γ 0) Γ) ((fun Γ => consM ((fun Γ => rdv Γ 1) Γ) ((fun _ => M.ret []) Γ)) Γ)) Γ) (callK 2 f__law_take))) Γ) ((fun Γ => consM ((fun Γ => M.bnd ((fun Γ => consM ((fun Γ => rdv Γ 0) Γ) ((fun Γ => consM ((fun Γ => M.bnd ((fun Γ => consM ((fun _ => M.ret (D.str "down")) Γ) ((fun Γ => consM ((fun _ => M.ret (D.str "up")) Γ) ((fun _ => M.ret []) Γ)) Γ)) Γ) lstK) Γ) ((fun _ => M.ret []) Γ)) Γ)) Γ) (callK 2 f__law_choice)) Γ) ((fun _ => M.ret []) Γ)) Γ)))
  (retM (fun Γ => M.bnd ((fun Γ => consM ((fun Γ => rdv Γ 1) Γ) ((fun Γ => consM ((fun Γ => rdv Γ 2) Γ) ((fun Γ => consM ((fun Γ => rdv Γ 3) Γ) ((fun Γ => consM ((bin D.add (fun _ => M.ret (D.int 1)) (fun Γ => M.bnd ((fun Γ => consM ((fun Γ => rdv Γ 0) Γ) ((fun Γ => consM ((fun _ => M.ret (D.int 3)) Γ) ((fun _ => M.ret []) Γ)) Γ)) Γ) (callK 2 f__law_take))) Γ) ((fun Γ => consM ((fun Γ => M.bnd ((fun Γ => consM ((fun Γ => rdv Γ 0) Γ) ((fun Γ => consM ((fun Γ => M.bnd ((fun Γ => consM ((fun _ => M.ret (D.int 0)) Γ) ((fun Γ => consM ((fun _ => M.ret (D.int 0)) Γ) ((fun Γ => consM ((fun _ => M.ret (D.int 1)) Γ) ((fun Γ => consM ((fun _ => M.ret (D.int 2)) Γ) ((fun Γ => consM ((fun _ => M.ret (D.int 3)) Γ) ((fun _ => M.ret []) Γ)) Γ)) Γ)) Γ)) Γ)) Γ) lstK) Γ) ((fun _ => M.ret []) Γ)) Γ)) Γ) (callK 2 f__law_choice)) Γ) ((fun _ => M.ret []) Γ)) Γ)) Γ)) Γ)) Γ)) Γ) tupK)))))
def f__law_rule : List D → M D := runD 4 m__law_rule
theorem ok__law_rule (T : Tx K mg) (TB : TBs K mg base tfL) : OkF (gx K) P w K mg base 3 "_law_rule" ["bag"] f__law_rule := by
  refine okF (g := gx K) (N := ["bag", "many", "best", "word"]) (m := m__law_rule) (k := 2) T.d__law_rule sc__law_rule (by decide) (fun _ _ _ _ _ _ us hl => match us, hl with | [_], _ => rfl) (fun f cdv A outer s H E hr => ?_)
  have h : PDSs (gx K) E (cxOf (L2N.CX P w) P w K mg base ["bag", "many", "best", "word"] "_law_rule" (defScope s__law_rule) f cdv A outer s H E) (defBody s__law_rule) _ _ := (pds_cons (pds_if (pt_eq hr (PD.pb (pd_f (ok__law_take T TB) hr (by decide) (L2N.passes_call (L2N.takes_of rfl rfl rfl rfl) (fun _ _ _ _ h => h)) (pa_c (pd_v (pv 0)) (pa_c pd_int pa_n)))) (PD.pb pd_int)) (pds_one (pds_ret (pd_f (ok__law_choice T TB) hr (by decide) (L2N.passes_call (L2N.takes_of rfl rfl rfl rfl) (fun _ _ _ _ h => h)) (pa_c (pd_v (pv 0)) (pa_c (pd_f0 (ok__law_known T TB) hr (by decide) (L2N.passes_call (L2N.takes_of rfl rfl rfl rfl) (fun _ _ _ _ h => h))) pa_n))))) pds_nil)
      (pds_cons (pds_st (i := 1) sc__law_rule.nd rfl (by first | exact Or.inl rfl | exact Or.inr rfl) (pd_op op_addD od_add (PD.pb pd_int) (PD.pb (pd_f (ok__law_take T TB) hr (by decide) (L2N.passes_call (L2N.takes_of rfl rfl rfl rfl) (fun _ _ _ _ h => h)) (pa_c (pd_v (pv 0)) (pa_c pd_int pa_n))))))
      (pds_cons (pds_p2 (i := 2) (j := 3) rfl sc__law_rule.nd rfl rfl (by decide) rfl rfl (pa_c (pd_op op_addD od_add (PD.pb pd_int) (PD.pb (pd_f (ok__law_take T TB) hr (by decide) (L2N.passes_call (L2N.takes_of rfl rfl rfl rfl) (fun _ _ _ _ h => h)) (pa_c (pd_v (pv 0)) (pa_c (pd_v (pv 1)) pa_n))))) (pa_c (pd_f (ok__law_choice T TB) hr (by decide) (L2N.passes_call (L2N.takes_of rfl rfl rfl rfl) (fun _ _ _ _ h => h)) (pa_c (pd_v (pv 0)) (pa_c (pd_lst (pa_c pd_str (pa_c pd_str pa_n))) pa_n))) pa_n)) (by rfl))
      (pds_one (pds_ret (pd_tup (pa_c (pd_v (pv 1)) (pa_c (pd_v (pv 2)) (pa_c (pd_v (pv 3)) (pa_c (pd_op op_addD od_add (PD.pb pd_int) (PD.pb (pd_f (ok__law_take T TB) hr (by decide) (L2N.passes_call (L2N.takes_of rfl rfl rfl rfl) (fun _ _ _ _ h => h)) (pa_c (pd_v (pv 0)) (pa_c pd_int pa_n))))) (pa_c (pd_f (ok__law_choice T TB) hr (by decide) (L2N.passes_call (L2N.takes_of rfl rfl rfl rfl) (fun _ _ _ _ h => h)) (pa_c (pd_v (pv 0)) (pa_c (pd_lst (pa_c pd_int (pa_c pd_int (pa_c pd_int (pa_c pd_int (pa_c pd_int pa_n)))))) pa_n))) pa_n)))))))))))
  exact ⟨_, h⟩
def b__law_row_1 : Ga → M Fl := (asgM (bin D.add (fun Γ => rdv Γ 2) (fun Γ => M.bnd ((fun Γ => consM ((fun Γ => rdv Γ 0) Γ) ((fun Γ => consM ((fun Γ => M.bnd ((fun Γ => consM ((fun _ => M.ret (D.str "0")) Γ) ((fun Γ => consM ((fun _ => M.ret (D.str "1")) Γ) ((fun Γ => consM ((fun _ => M.ret (D.str "2")) Γ) ((fun Γ => consM ((fun _ => M.ret (D.str "3")) Γ) ((fun _ => M.ret []) Γ)) Γ)) Γ)) Γ)) Γ) lstK) Γ) ((fun _ => M.ret []) Γ)) Γ)) Γ) (callK 2 f__law_choice))) (gN 2))
def m__law_row_1 : Ga → M Fl := (forM' (fun Γ => M.bnd ((fun Γ => consM ((fun Γ => M.bnd ((fun Γ => consM ((fun Γ => rdv Γ 0) Γ) ((fun Γ => consM ((bin D.add (fun Γ => rdv Γ 1) (fun _ => M.ret (D.int 1))) Γ) ((fun _ => M.ret []) Γ)) Γ)) Γ) (callK 2 f__law_take)) Γ) ((fun _ => M.ret []) Γ)) Γ) rng1K) (gN 3) b__law_row_1)
def m__law_row : Ga → M Fl := (seqM (asgM (fun _ => M.ret (D.str "")) (gN 2))
  (seqM m__law_row_1
  (retM (fun Γ => rdv Γ 2))))
def f__law_row : List D → M D := runD 4 m__law_row
theorem ok__law_row (T : Tx K mg) (TB : TBs K mg base tfL) : OkF (gx K) P w K mg base 3 "_law_row" ["bag", "most"] f__law_row := by
  refine okF (g := gx K) (N := ["bag", "most", "row", "turn"]) (m := m__law_row) (k := 2) T.d__law_row sc__law_row (by decide) (fun _ _ _ _ _ _ us hl => match us, hl with | [_, _], _ => rfl) (fun f cdv A outer s H E hr => ?_)
  have h : PDSs (gx K) E (cxOf (L2N.CX P w) P w K mg base ["bag", "most", "row", "turn"] "_law_row" (defScope s__law_row) f cdv A outer s H E) (defBody s__law_row) _ _ := (pds_cons (pds_st (i := 2) sc__law_row.nd rfl (by first | exact Or.inl rfl | exact Or.inr rfl) pd_str)
      (pds_cons (pds_for (passes_of rfl) rfl (pi_r1 T.z_range (pa_c (pd_f (ok__law_take T TB) hr (by decide) (L2N.passes_call (L2N.takes_of rfl rfl rfl rfl) (fun _ _ _ _ h => h)) (pa_c (pd_v (pv 0)) (pa_c (pd_op op_addD od_add (PD.pb (pd_v (pv 1))) (PD.pb pd_int)) pa_n))) pa_n)) (pg_n (pg_name (i := 3) sc__law_row.nd rfl (by first | exact Or.inl rfl | exact Or.inr rfl))) (pds_one (pds_st (i := 2) sc__law_row.nd rfl (by first | exact Or.inl rfl | exact Or.inr rfl) (pd_op op_addD od_add (PD.pb (pd_v (pv 2))) (PD.pb (pd_f (ok__law_choice T TB) hr (by decide) (L2N.passes_call (L2N.takes_of rfl rfl rfl rfl) (fun _ _ _ _ h => h)) (pa_c (pd_v (pv 0)) (pa_c (pd_lst (pa_c pd_str (pa_c pd_str (pa_c pd_str (pa_c pd_str pa_n))))) pa_n))))))))
      (pds_one (pds_ret (pd_v (pv 2))))))
  exact ⟨_, h⟩
def c__law_next_1 : Ga → M (List D) := (compM [11] (fun Γ => M.bnd ((fun Γ => cutM ((fun Γ => rdv Γ 1) Γ) ((fun Γ => M.bnd ((un1 D.neg (fun Γ => rdv Γ 3)) Γ) asI) Γ) ((fun _ => M.ret none) Γ)) Γ) itemsK) (gN 11) (fun _ => M.ret true) (fun Γ => M.bnd ((fun Γ => consM ((fun Γ => rdv Γ 11) Γ) ((fun _ => M.ret []) Γ)) Γ) fun xs => opt (D.toInt xs)))
def m__law_next_1 : Ga → M Fl := (fun Γ => ifM ((fun Γ => andM ((fun Γ => M.bnd (bin D.eq (fun Γ => rdv Γ 5) (fun _ => M.ret (D.str "up")) Γ) asB) Γ) ((fun Γ => M.bnd (bin D.lt (bin D.mul (fun Γ => rdv Γ 9) (fun Γ => M.bnd ((fun Γ => consM ((fun Γ => rdv Γ 8) Γ) ((fun _ => M.ret []) Γ)) Γ) fun xs => opt (D.len xs))) (fun Γ => M.bnd ((fun Γ => consM ((fun Γ => rdv Γ 8) Γ) ((fun _ => M.ret []) Γ)) Γ) fun xs => opt (D.sum xs)) Γ) asB) Γ)) Γ) ((asgM (bin D.add (fun Γ => rdv Γ 9) (fun _ => M.ret (D.int 1))) (gN 9)) Γ) (nxM Γ))
def m__law_next_2 : Ga → M Fl := (fun Γ => ifM ((fun Γ => andM ((fun Γ => M.bnd (bin D.ne (fun Γ => rdv Γ 7) (fun _ => M.ret (D.int 0)) Γ) asB) Γ) ((fun Γ => andM ((fun Γ => M.bnd (bin D.le (bin D.add (fun Γ => M.bnd ((fun Γ => consM ((bin D.ix (fun Γ => rdv Γ 1) (un1 D.neg (fun _ => M.ret (D.int 1)))) Γ) ((fun _ => M.ret []) Γ)) Γ) fun xs => opt (D.toInt xs)) (fun Γ => rdv Γ 7)) (fun Γ => rdv Γ 2) Γ) asB) Γ) ((fun Γ => M.bnd (bin D.gt (fun Γ => rdv Γ 10) (fun _ => M.ret (D.int 0)) Γ) asB) Γ)) Γ)) Γ) ((asgM (bin D.sub (fun Γ => rdv Γ 10) (fun _ => M.ret (D.int 1))) (gN 10)) Γ) (nxM Γ))
def m__law_next : Ga → M Fl := (seqM (asgM (fun Γ => rdv Γ 0) (gT 5 (gsCons (gN 3) (gsCons (gN 4) (gsCons (gN 5) (gsCons (gN 6) (gsCons (gN 7) gsNil)))))))
  (seqM (asgM (fun Γ => cutM ((fun Γ => M.bnd ((fun Γ => consM ((lstOf c__law_next_1) Γ) ((fun _ => M.ret []) Γ)) Γ) fun xs => opt (D.sorted xs)) Γ) ((fun _ => M.ret none) Γ) ((fun Γ => M.bnd ((fun Γ => rdv Γ 4) Γ) asI) Γ)) (gN 8))
  (seqM (asgM (bin D.fdiv (fun Γ => M.bnd ((fun Γ => consM ((fun Γ => rdv Γ 8) Γ) ((fun _ => M.ret []) Γ)) Γ) fun xs => opt (D.sum xs)) (fun Γ => M.bnd ((fun Γ => consM ((fun Γ => rdv Γ 8) Γ) ((fun _ => M.ret []) Γ)) Γ) fun xs => opt (D.len xs))) (gN 9))
  (seqM m__law_next_1
  (seqM (asgM (fun Γ => ifM ((fun Γ => M.bnd (bin D.le (fun Γ => rdv Γ 9) (bin D.add (fun Γ => rdv Γ 2) (fun Γ => rdv Γ 6)) Γ) asB) Γ) ((fun Γ => rdv Γ 9) Γ) ((bin D.add (fun Γ => rdv Γ 2) (fun Γ => rdv Γ 6)) Γ)) (gN 10))
  (seqM m__law_next_2
  (retM (fun Γ => rdv Γ 10))))))))
def f__law_next : List D → M D := runD 12 m__law_next
theorem ok__law_next (T : Tx K mg) (TB : TBs K mg base tfL) : OkF (gx K) P w K mg base 1 "_law_next" ["rule_so", "row", "given"] f__law_next := by
  refine okF (g := gx K) (N := ["rule_so", "row", "given", "many", "best", "word", "rise", "drop", "some", "mean", "later", "sign"]) (m := m__law_next) (k := 0) T.d__law_next sc__law_next (by decide) (fun _ _ _ _ _ _ us hl => match us, hl with | [_, _, _], _ => rfl) (fun f cdv A outer s H E hr => ?_)
  have h : PDSs (gx K) E (cxOf (L2N.CX P w) P w K mg base ["rule_so", "row", "given", "many", "best", "word", "rise", "drop", "some", "mean", "later", "sign"] "_law_next" (defScope s__law_next) f cdv A outer s H E) (defBody s__law_next) _ _ := (pds_cons (pds_asg (pd_v (pv 0)) (pg_t (n := 5) rfl (pgs_c (pg_n (pg_name (i := 3) sc__law_next.nd rfl (by first | exact Or.inl rfl | exact Or.inr rfl))) (pgs_c (pg_n (pg_name (i := 4) sc__law_next.nd rfl (by first | exact Or.inl rfl | exact Or.inr rfl))) (pgs_c (pg_n (pg_name (i := 5) sc__law_next.nd rfl (by first | exact Or.inl rfl | exact Or.inr rfl))) (pgs_c (pg_n (pg_name (i := 6) sc__law_next.nd rfl (by first | exact Or.inl rfl | exact Or.inr rfl))) (pgs_c (pg_n (pg_name (i := 7) sc__law_next.nd rfl (by first | exact Or.inl rfl | exact Or.inr rfl))) pgs_n)))))))
      (pds_cons (pds_st (i := 8) sc__law_next.nd rfl (by first | exact Or.inl rfl | exact Or.inr rfl) (pd_cut (PD.pb (pd_callB (cl_sorted (hu65 hr)) cd_sorted T.z_sorted boot_sorted (pab_c (PD.pb (PN.pd (pn_lc rfl sc__law_next.nd (pi_any (pd_cut (PD.pb (pd_v (pv 1))) (po_s (PD.pb (pd_neg (PD.pb (pd_v (pv 3)))))) po_n)) (blkOk_by (own := [("sign", 11)]) (by kernel_rfl)) (fun s H C cl fp => ⟨_, (pg_n (pg_name (i := 11) sc__law_next.nd rfl (by first | exact Or.inl rfl | exact Or.inr rfl))), (own_n (by decide)), mono_n⟩) (fun s H C cl fp => ⟨_, pdts_n⟩) (fun s H C cl fp => ⟨_, (pd_callTy cl_int cd_int T.z_int boot_int (pab_c (PD.pb (pd_v (pv 11))) pab_n))⟩)))) pab_n))) po_n (po_s (PD.pb (pd_v (pv 4))))))
      (pds_cons (pds_st (i := 9) sc__law_next.nd rfl (by first | exact Or.inl rfl | exact Or.inr rfl) (pd_op op_fdiv od_fdiv (PD.pb (pd_callB (cr_sum rfl) cd_sum T.z_sum boot_sum (pab_c (PD.pb (pd_v (pv 8))) pab_n))) (PD.pb (pd_callB cl_len cd_len T.z_len boot_len (pab_c (PD.pb (pd_v (pv 8))) pab_n)))))
      (pds_cons (pds_if (PDW.pt (pw_a (pt_eq hr (PD.pb (pd_v (pv 5))) (PD.pb pd_str)) (pw_a1 (pt_cmp op_lt od_lt (PD.pb (pd_op op_mul od_mul (PD.pb (pd_v (pv 9))) (PD.pb (pd_callB cl_len cd_len T.z_len boot_len (pab_c (PD.pb (pd_v (pv 8))) pab_n))))) (PD.pb (pd_callB (cr_sum rfl) cd_sum T.z_sum boot_sum (pab_c (PD.pb (pd_v (pv 8))) pab_n))))))) (pds_one (pds_st (i := 9) sc__law_next.nd rfl (by first | exact Or.inl rfl | exact Or.inr rfl) (pd_op op_addD od_add (PD.pb (pd_v (pv 9))) (PD.pb pd_int)))) pds_nil)
      (pds_cons (pds_st (i := 10) sc__law_next.nd rfl (by first | exact Or.inl rfl | exact Or.inr rfl) (pd_if (pt_cmp op_le od_le (PD.pb (pd_v (pv 9))) (PD.pb (pd_op op_addD od_add (PD.pb (pd_v (pv 2))) (PD.pb (pd_v (pv 6)))))) (pd_v (pv 9)) (pd_op op_addD od_add (PD.pb (pd_v (pv 2))) (PD.pb (pd_v (pv 6))))))
      (pds_cons (pds_if (PDW.pt (pw_a (pt_ne hr (PD.pb (pd_v (pv 7))) (PD.pb pd_int)) (pw_a (pt_cmp op_le od_le (PD.pb (pd_op op_addD od_add (PD.pb (pd_callTy cl_int cd_int T.z_int boot_int (pab_c (PD.pb (pd_ix (PD.pb (pd_v (pv 1))) (PD.pb (pd_neg (PD.pb pd_int))))) pab_n))) (PD.pb (pd_v (pv 7))))) (PD.pb (pd_v (pv 2)))) (pw_a1 (pt_cmp op_gt od_gt (PD.pb (pd_v (pv 10))) (PD.pb pd_int)))))) (pds_one (pds_st (i := 10) sc__law_next.nd rfl (by first | exact Or.inl rfl | exact Or.inr rfl) (pd_op op_sub od_sub (PD.pb (pd_v (pv 10))) (PD.pb pd_int)))) pds_nil)
      (pds_one (pds_ret (pd_v (pv 10))))))))))
  exact ⟨_, h⟩
def b__law_givens_1 : Ga → M Fl := (appM 3 (fun Γ => M.bnd ((fun Γ => consM ((fun Γ => rdv Γ 0) Γ) ((fun Γ => consM ((fun Γ => cutM ((fun Γ => rdv Γ 2) Γ) ((fun _ => M.ret none) Γ) ((fun Γ => M.bnd ((bin D.add (fun Γ => rdv Γ 4) (fun _ => M.ret (D.int 1))) Γ) asI) Γ)) Γ) ((fun Γ => consM ((bin D.ix (fun Γ => rdo Γ 3) (un1 D.neg (fun _ => M.ret (D.int 1)))) Γ) ((fun _ => M.ret []) Γ)) Γ)) Γ)) Γ) (callK 3 f__law_next)))
def m__law_givens_1 : Ga → M Fl := (forM' (fun Γ => M.bnd ((fun Γ => consM ((fun Γ => M.bnd ((fun Γ => consM ((fun Γ => rdv Γ 2) Γ) ((fun _ => M.ret []) Γ)) Γ) fun xs => opt (D.len xs)) Γ) ((fun _ => M.ret []) Γ)) Γ) rng1K) (gN 4) b__law_givens_1)
def m__law_givens : Ga → M Fl := (seqM (ownM 3 (fun Γ => M.bnd ((fun Γ => consM ((fun Γ => rdv Γ 1) Γ) ((fun _ => M.ret []) Γ)) Γ) lenK))
  (seqM m__law_givens_1
  (fun Γ => (retM (fun Γ => rdv Γ 3)) (frz 3 Γ))))
def f__law_givens : List D → M D := runD 5 m__law_givens
theorem ok__law_givens (T : Tx K mg) (TB : TBs K mg base tfL) : OkF (gx K) P w K mg base 2 "_law_givens" ["rule_so", "start", "row"] f__law_givens := by
  refine okF (g := gx K) (N := ["rule_so", "start", "row", "found", "at"]) (m := m__law_givens) (k := 1) T.d__law_givens sc__law_givens (by decide) (fun _ _ _ _ _ _ us hl => match us, hl with | [_, _, _], _ => rfl) (fun f cdv A outer s H E hr => ?_)
  have h : PDSs (gx K) E (cxOf (L2N.CX P w) P w K mg base ["rule_so", "start", "row", "found", "at"] "_law_givens" (defScope s__law_givens) f cdv A outer s H E) (defBody s__law_givens) _ _ := (pds_cons (pds_ow (i := 3) sc__law_givens.nd rfl (by first | exact Or.inl rfl | exact Or.inr rfl) (pn_lst (pa_c (pd_v (pv 1)) pa_n)))
      (pds_cons (pds_for (passes_of rfl) rfl (pi_r1 T.z_range (pa_c (pd_callB cl_len cd_len T.z_len boot_len (pab_c (PD.pb (pd_v (pv 2))) pab_n)) pa_n)) (pg_n (pg_name (i := 4) sc__law_givens.nd rfl (by first | exact Or.inl rfl | exact Or.inr rfl))) (pds_one (pds_append (pv 3) (pd_f (ok__law_next T TB) hr (by decide) (L2N.passes_call (L2N.takes_of rfl rfl rfl rfl) (fun _ _ _ _ h => h)) (pa_c (pd_v (pv 0)) (pa_c (pd_cut (PD.pb (pd_v (pv 2))) po_n (po_s (PD.pb (pd_op op_addD od_add (PD.pb (pd_v (pv 4))) (PD.pb pd_int))))) (pa_c (pd_ix (pb_o (pv 3)) (PD.pb (pd_neg (PD.pb pd_int)))) pa_n)))))))
      (pds_one (pds_frz 3 (pds_ret (pd_v (pv 3)))))))
  exact ⟨_, h⟩
theorem ok__law_named_error (T : Tx K mg) : OkH (gx K) Lb P w K mg base 1 "_law_named_error" "e" := by
  refine okH (g := gx K) (N := ["e", "some", "labels", "label", "good"]) (k := 0) T.d__law_named_error sc__law_named_error (by decide) (fun _ _ _ _ _ _ us hl => match us, hl with | [_], _ => rfl) (fun f cdv A outer s H E p c l hot hr hz hl => ?_)
  obtain ⟨x1, ox⟩ := p
  have hp : (x1, ox) ∈ [(x1, ox)] := List.mem_singleton.mpr rfl
  have hf : ∃ vs, ox.data = .fields vs := by obtain ⟨_, vs, e, _⟩ := hot; exact ⟨vs, e⟩
  have h : PDSs (gx K) E (L2H.cxH (L2N.CX P w) P w K mg base ["e", "some", "labels", "label", "good"] "_law_named_error" (defScope s__law_named_error) f cdv A outer s H E (x1, ox)) (defBody s__law_named_error) _ (namedM (fun d => isEM x1 0 (decide (c = d)))) := (pds_cons (pds_st (i := 1) sc__law_named_error.nd rfl (by first | exact Or.inl rfl | exact Or.inr rfl) (pd_lst (pa_c (pd_isX hp (T.ex.excC hl) hz.zc hf (T.ex.kit hl (l2 := "rule") (by decide)) T.z_isinstance (pv 0) T.g_InvalidRule) (pa_c (pd_isX hp (T.ex.excC hl) hz.zc hf (T.ex.kit hl (l2 := "start") (by decide)) T.z_isinstance (pv 0) T.g_InvalidStart) (pa_c (pd_isX hp (T.ex.excC hl) hz.zc hf (T.ex.kit hl (l2 := "prizes") (by decide)) T.z_isinstance (pv 0) T.g_InvalidPrizes) pa_n)))))
      (pds_cons (pds_st (i := 1) sc__law_named_error.nd rfl (by first | exact Or.inl rfl | exact Or.inr rfl) (pd_op op_addD od_add (PD.pb (pd_v (pv 1))) (PD.pb (pd_lst (pa_c (pd_isX hp (T.ex.excC hl) hz.zc hf (T.ex.kit hl (l2 := "skill") (by decide)) T.z_isinstance (pv 0) T.g_InvalidSkill) (pa_c (pd_isX hp (T.ex.excC hl) hz.zc hf (T.ex.kit hl (l2 := "row") (by decide)) T.z_isinstance (pv 0) T.g_InvalidRow) (pa_c (pd_isX hp (T.ex.excC hl) hz.zc hf (T.ex.kit hl (l2 := "number") (by decide)) T.z_isinstance (pv 0) T.g_InvalidNumber) pa_n)))))))
      (pds_cons (pds_st (i := 1) sc__law_named_error.nd rfl (by first | exact Or.inl rfl | exact Or.inr rfl) (pd_op op_addD od_add (PD.pb (pd_v (pv 1))) (PD.pb (pd_lst (pa_c (pd_isX hp (T.ex.excC hl) hz.zc hf (T.ex.kit hl (l2 := "words") (by decide)) T.z_isinstance (pv 0) T.g_InvalidWords) (pa_c (pd_isX hp (T.ex.excC hl) hz.zc hf (T.ex.kit hl (l2 := "index") (by decide)) T.z_isinstance (pv 0) T.g_InvalidIndex) (pa_c (pd_isX hp (T.ex.excC hl) hz.zc hf (T.ex.kit hl (l2 := "score") (by decide)) T.z_isinstance (pv 0) T.g_InvalidScore) pa_n)))))))
      (pds_cons (pds_st (i := 1) sc__law_named_error.nd rfl (by first | exact Or.inl rfl | exact Or.inr rfl) (pd_op op_addD od_add (PD.pb (pd_v (pv 1))) (PD.pb (pd_lst (pa_c (pd_isX hp (T.ex.excC hl) hz.zc hf (T.ex.kit hl (l2 := "seen") (by decide)) T.z_isinstance (pv 0) T.g_InvalidSeen) (pa_c (pd_isX hp (T.ex.excC hl) hz.zc hf (T.ex.kit hl (l2 := "cards") (by decide)) T.z_isinstance (pv 0) T.g_InvalidCards) (pa_c (pd_isX hp (T.ex.excC hl) hz.zc hf (T.ex.kit hl (l2 := "text") (by decide)) T.z_isinstance (pv 0) T.g_InvalidText) pa_n)))))))
      (pds_cons (pds_st (i := 1) sc__law_named_error.nd rfl (by first | exact Or.inl rfl | exact Or.inr rfl) (pd_op op_addD od_add (PD.pb (pd_v (pv 1))) (PD.pb (pd_lst (pa_c (pd_isX hp (T.ex.excC hl) hz.zc hf (T.ex.kit hl (l2 := "many") (by decide)) T.z_isinstance (pv 0) T.g_TooMany) (pa_c (pd_isX hp (T.ex.excC hl) hz.zc hf (T.ex.kit hl (l2 := "unlike") (by decide)) T.z_isinstance (pv 0) T.g_Unlike) (pa_c (pd_isX hp (T.ex.excC hl) hz.zc hf (T.ex.kit hl (l2 := "undo") (by decide)) T.z_isinstance (pv 0) T.g_NothingToUndo) pa_n)))))))
      (pds_cons (pds_st (i := 2) sc__law_named_error.nd rfl (by first | exact Or.inl rfl | exact Or.inr rfl) pd_str)
      (pds_one (pds_ret (pd_join (PD.pb pd_str) (PD.pb (PN.pd (pn_zipX (own := [("label", 3), ("good", 4)]) hot hp sc__law_named_error.nd T.z_zip (pa_c (pd_split (PD.pb (pd_v (pv 2))) (PD.pb pd_str)) (pa_c (pd_v (pv 1)) pa_n)) (blkOk_by (own := [("label", 3), ("good", 4)]) (by kernel_rfl)) (owns_cons (own_n (by decide)) mono_n (owns_cons (own_n (by decide)) mono_n owns_nil mono_nil) (mono_cons mono_n mono_nil)) (mono_cons mono_n (mono_cons mono_n mono_nil)) (fun s H C cl fp => pgs_c (pg_n (pg_name (i := 3) sc__law_named_error.nd rfl (by first | exact Or.inl rfl | exact Or.inr rfl))) (pgs_c (pg_n (pg_name (i := 4) sc__law_named_error.nd rfl (by first | exact Or.inl rfl | exact Or.inr rfl))) pgs_n)) (fun s H C cl fp => pdts_1 (pt_v (pd_v (pv 4)))) (fun s H C cl fp => pd_v (pv 3)) (fun _ _ _ => rfl) (fun _ _ _ => rfl)))))))))))))
  exact ⟨_, _, h, ev_named hl x1⟩
theorem ok__law_error (T : Tx K mg) : OkE P w K mg base 1 "_law_error" (ttErr (gx K) Lb) :=
  okErr (g := gx K) T.d__law_error sc__law_error T.ex rfl (ok__law_named_error T) rfl (fun _ _ _ _ _ _ us hl => match us, hl with | [_], _ => rfl) T.g_StrokeError T.z_isinstance T.z_ValueError
theorem ok__law_all_refused (T : Tx K mg) (TB : TBs K mg base tfL) {k : Nat} : OkR (gx K) Lb P w K mg base k "_law_all_refused" := by
  refine okR_of T.d__law_all_refused sc__law_all_refused (fun _ _ _ _ _ _ us hl => match us, hl with | [_, _, _], _ => rfl) (fun b2 hle A outer s H E ba B2 H2 f mm hr act => ?_)
  have TB2 : TBs K mg b2 tfL := TBs.up TB hle
  have h : PDSs (gP (gx K) ba B2 H2) E (cxOf (L2N.CX P w) P w K mg b2 NR "_law_all_refused" (defScope s__law_all_refused) (He.ga K "_law_all_refused") (.ref (He.codeOf K ("_law_all_refused", none))) A outer s H E) (defBody s__law_all_refused) _ (mRef Lb f mm) := (pds_one (pds_ret (pd_eq hr (PD.pb (PN.pd (pn_lc rfl sc__law_all_refused.nd (pi_any (pd_v (pv 1))) (blkOk_by (own := [("odd", 3)]) (by kernel_rfl)) (fun s H C cl fp => ⟨_, (pg_n (pg_name (i := 3) sc__law_all_refused.nd rfl (by first | exact Or.inl rfl | exact Or.inr rfl))), (own_n (by decide)), mono_n⟩) (fun s H C cl fp => ⟨_, (pdts_1 (pt_ne hr (PD.pb (pd_lErrP (k := k) (ok__law_error T) (lamF_by rfl TB2 (by decide) rfl rfl (by kernel_rfl)) hr (by omega) (fun A outer s H E f' c' st hr => act _ E _ _ _ rfl rfl rfl rfl rfl rfl (Or.inr (Or.inr rfl)) (Or.inr (Or.inr rfl)) (L2N.passes_call (L2N.takes_of rfl rfl rfl rfl) (fun _ _ _ _ h => h)) hr))) (PD.pb (pd_v (pv 2)))))⟩) (fun s H C cl fp => ⟨_, (pd_v (pv 3))⟩)))) (PD.pb (pd_lst pa_n)))))
  exact ⟨_, h⟩
def m__law_bad_starts : Ga → M Fl := (retM (fun Γ => M.bnd ((fun Γ => consM ((fun _ => M.ret D.non) Γ) ((fun Γ => consM ((un1 D.neg (fun _ => M.ret (D.int 1))) Γ) ((fun Γ => consM ((fun _ => M.ret (D.int 4)) Γ) ((fun Γ => consM ((fun _ => M.ret (D.bl true)) Γ) ((fun Γ => consM ((fun _ => M.ret (D.str "1")) Γ) ((fun Γ => consM ((fun Γ => M.bnd ((fun Γ => consM ((fun _ => M.ret (D.int 1)) Γ) ((fun _ => M.ret []) Γ)) Γ) tupK) Γ) ((fun _ => M.ret []) Γ)) Γ)) Γ)) Γ)) Γ)) Γ)) Γ) lstK))
def f__law_bad_starts : List D → M D := runD 0 m__law_bad_starts
theorem ok__law_bad_starts (T : Tx K mg) (TB : TBs K mg base tfL) : OkF (gx K) P w K mg base 1 "_law_bad_starts" [] f__law_bad_starts := by
  refine okF (g := gx K) (N := []) (m := m__law_bad_starts) (k := 0) T.d__law_bad_starts sc__law_bad_starts (by decide) (fun _ _ _ _ _ _ us hl => match us, hl with | [], _ => rfl) (fun f cdv A outer s H E hr => ?_)
  have h : PDSs (gx K) E (cxOf (L2N.CX P w) P w K mg base [] "_law_bad_starts" (defScope s__law_bad_starts) f cdv A outer s H E) (defBody s__law_bad_starts) _ _ := (pds_one (pds_ret (pd_lst (pa_c pd_non (pa_c (pd_neg (PD.pb pd_int)) (pa_c pd_int (pa_c pd_bl (pa_c pd_str (pa_c (pd_tup (pa_c pd_int pa_n)) pa_n)))))))))
  exact ⟨_, h⟩
def m__law_bad_rows : Ga → M Fl := (retM (fun Γ => M.bnd ((fun Γ => consM ((fun _ => M.ret D.non) Γ) ((fun Γ => consM ((fun _ => M.ret (D.int 1)) Γ) ((fun Γ => consM ((fun _ => M.ret (D.str "4")) Γ) ((fun Γ => consM ((fun _ => M.ret (D.str "0a")) Γ) ((fun Γ => consM ((fun _ => M.ret (D.str " ")) Γ) ((fun Γ => consM ((fun Γ => M.bnd ((fun Γ => consM ((fun _ => M.ret (D.str "0")) Γ) ((fun _ => M.ret []) Γ)) Γ) tupK) Γ) ((fun Γ => consM ((fun Γ => M.bnd ((fun Γ => consM ((fun _ => M.ret (D.str "0")) Γ) ((fun _ => M.ret []) Γ)) Γ) lstK) Γ) ((fun Γ => consM ((bin D.repS (fun _ => M.ret (D.str "0")) (fun _ => M.ret (D.int 41))) Γ) ((fun Γ => consM ((fun _ => M.ret (D.str "-1")) Γ) ((fun Γ => consM ((fun _ => M.ret (D.str "0\n")) Γ) ((fun _ => M.ret []) Γ)) Γ)) Γ)) Γ)) Γ)) Γ)) Γ)) Γ)) Γ)) Γ)) Γ) lstK))
def f__law_bad_rows : List D → M D := runD 0 m__law_bad_rows
theorem ok__law_bad_rows (T : Tx K mg) (TB : TBs K mg base tfL) : OkF (gx K) P w K mg base 1 "_law_bad_rows" [] f__law_bad_rows := by
  refine okF (g := gx K) (N := []) (m := m__law_bad_rows) (k := 0) T.d__law_bad_rows sc__law_bad_rows (by decide) (fun _ _ _ _ _ _ us hl => match us, hl with | [], _ => rfl) (fun f cdv A outer s H E hr => ?_)
  have h : PDSs (gx K) E (cxOf (L2N.CX P w) P w K mg base [] "_law_bad_rows" (defScope s__law_bad_rows) f cdv A outer s H E) (defBody s__law_bad_rows) _ _ := (pds_one (pds_ret (pd_lst (pa_c pd_non (pa_c pd_int (pa_c pd_str (pa_c pd_str (pa_c pd_str (pa_c (pd_tup (pa_c pd_str pa_n)) (pa_c (pd_lst (pa_c pd_str pa_n)) (pa_c (pd_op op_repS od_repS (PD.pb pd_str) (PD.pb pd_int)) (pa_c pd_str (pa_c pd_str pa_n)))))))))))))
  exact ⟨_, h⟩
def b__law_every_rule_1 : Ga → M Fl := (appM 0 (fun Γ => M.bnd ((fun Γ => consM ((fun Γ => rdv Γ 1) Γ) ((fun Γ => consM ((fun Γ => rdv Γ 2) Γ) ((fun Γ => consM ((bin D.ix (fun Γ => M.bnd ((fun Γ => consM ((fun _ => M.ret (D.str "down")) Γ) ((fun Γ => consM ((fun _ => M.ret (D.str "up")) Γ) ((fun _ => M.ret []) Γ)) Γ)) Γ) lstK) (bin D.fdiv (fun Γ => rdv Γ 3) (fun _ => M.ret (D.int 12)))) Γ) ((fun Γ => consM ((bin D.add (fun _ => M.ret (D.int 1)) (bin D.mod (bin D.fdiv (fun Γ => rdv Γ 3) (fun _ => M.ret (D.int 4))) (fun _ => M.ret (D.int 3)))) Γ) ((fun Γ => consM ((bin D.mod (fun Γ => rdv Γ 3) (fun _ => M.ret (D.int 4))) Γ) ((fun _ => M.ret []) Γ)) Γ)) Γ)) Γ)) Γ)) Γ) tupK))
def m__law_every_rule_1 : Ga → M Fl := (forM' (fun Γ => M.bnd ((fun Γ => consM ((fun _ => M.ret (D.int 24)) Γ) ((fun _ => M.ret []) Γ)) Γ) rng1K) (gN 3) b__law_every_rule_1)
def b__law_every_rule_2 : Ga → M Fl := m__law_every_rule_1
def m__law_every_rule_2 : Ga → M Fl := (forM' (fun Γ => M.bnd ((fun Γ => M.bnd ((fun Γ => consM ((fun Γ => M.bnd ((fun Γ => consM ((fun _ => M.ret (D.int 1)) Γ) ((fun Γ => consM ((fun _ => M.ret (D.int 1)) Γ) ((fun _ => M.ret []) Γ)) Γ)) Γ) tupK) Γ) ((fun Γ => consM ((fun Γ => M.bnd ((fun Γ => consM ((fun _ => M.ret (D.int 2)) Γ) ((fun Γ => consM ((fun _ => M.ret (D.int 1)) Γ) ((fun _ => M.ret []) Γ)) Γ)) Γ) tupK) Γ) ((fun Γ => consM ((fun Γ => M.bnd ((fun Γ => consM ((fun _ => M.ret (D.int 2)) Γ) ((fun Γ => consM ((fun _ => M.ret (D.int 2)) Γ) ((fun _ => M.ret []) Γ)) Γ)) Γ) tupK) Γ) ((fun Γ => consM ((fun Γ => M.bnd ((fun Γ => consM ((fun _ => M.ret (D.int 3)) Γ) ((fun Γ => consM ((fun _ => M.ret (D.int 1)) Γ) ((fun _ => M.ret []) Γ)) Γ)) Γ) tupK) Γ) ((fun Γ => consM ((fun Γ => M.bnd ((fun Γ => consM ((fun _ => M.ret (D.int 3)) Γ) ((fun Γ => consM ((fun _ => M.ret (D.int 2)) Γ) ((fun _ => M.ret []) Γ)) Γ)) Γ) tupK) Γ) ((fun Γ => consM ((fun Γ => M.bnd ((fun Γ => consM ((fun _ => M.ret (D.int 3)) Γ) ((fun Γ => consM ((fun _ => M.ret (D.int 3)) Γ) ((fun _ => M.ret []) Γ)) Γ)) Γ) tupK) Γ) ((fun _ => M.ret []) Γ)) Γ)) Γ)) Γ)) Γ)) Γ)) Γ) lstK) Γ) itemsK) (gT 2 (gsCons (gN 1) (gsCons (gN 2) gsNil))) b__law_every_rule_2)
def m__law_every_rule : Ga → M Fl := (seqM (ownM 0 (fun Γ => M.bnd ((fun _ => M.ret []) Γ) lenK))
  (seqM m__law_every_rule_2
  (fun Γ => (retM (fun Γ => rdv Γ 0)) (frz 0 Γ))))
def f__law_every_rule : List D → M D := runD 4 m__law_every_rule
theorem ok__law_every_rule (T : Tx K mg) (TB : TBs K mg base tfL) : OkF (gx K) P w K mg base 1 "_law_every_rule" [] f__law_every_rule := by
  refine okF (g := gx K) (N := ["found", "many", "best", "number"]) (m := m__law_every_rule) (k := 0) T.d__law_every_rule sc__law_every_rule (by decide) (fun _ _ _ _ _ _ us hl => match us, hl with | [], _ => rfl) (fun f cdv A outer s H E hr => ?_)
  have h : PDSs (gx K) E (cxOf (L2N.CX P w) P w K mg base ["found", "many", "best", "number"] "_law_every_rule" (defScope s__law_every_rule) f cdv A outer s H E) (defBody s__law_every_rule) _ _ := (pds_cons (pds_ow (i := 0) sc__law_every_rule.nd rfl (by first | exact Or.inl rfl | exact Or.inr rfl) (pn_lst pa_n))
      (pds_cons (pds_for (passes_of rfl) rfl (pi_any (pd_lst (pa_c (pd_tup (pa_c pd_int (pa_c pd_int pa_n))) (pa_c (pd_tup (pa_c pd_int (pa_c pd_int pa_n))) (pa_c (pd_tup (pa_c pd_int (pa_c pd_int pa_n))) (pa_c (pd_tup (pa_c pd_int (pa_c pd_int pa_n))) (pa_c (pd_tup (pa_c pd_int (pa_c pd_int pa_n))) (pa_c (pd_tup (pa_c pd_int (pa_c pd_int pa_n))) pa_n)))))))) (pg_t (n := 2) rfl (pgs_c (pg_n (pg_name (i := 1) sc__law_every_rule.nd rfl (by first | exact Or.inl rfl | exact Or.inr rfl))) (pgs_c (pg_n (pg_name (i := 2) sc__law_every_rule.nd rfl (by first | exact Or.inl rfl | exact Or.inr rfl))) pgs_n))) (pds_one (pds_for (passes_of rfl) rfl (pi_r1 T.z_range (pa_c pd_int pa_n)) (pg_n (pg_name (i := 3) sc__law_every_rule.nd rfl (by first | exact Or.inl rfl | exact Or.inr rfl))) (pds_one (pds_append (pv 0) (pd_tup (pa_c (pd_v (pv 1)) (pa_c (pd_v (pv 2)) (pa_c (pd_ix (PD.pb (pd_lst (pa_c pd_str (pa_c pd_str pa_n)))) (PD.pb (pd_op op_fdiv od_fdiv (PD.pb (pd_v (pv 3))) (PD.pb pd_int)))) (pa_c (pd_op op_addD od_add (PD.pb pd_int) (PD.pb (pd_op op_mod od_mod (PD.pb (pd_op op_fdiv od_fdiv (PD.pb (pd_v (pv 3))) (PD.pb pd_int))) (PD.pb pd_int)))) (pa_c (pd_op op_mod od_mod (PD.pb (pd_v (pv 3))) (PD.pb pd_int)) pa_n)))))))))))
      (pds_one (pds_frz 0 (pds_ret (pd_v (pv 0)))))))
  exact ⟨_, h⟩
def c__law_fitting_1 : Ga → M (List D) := (compM [4, 5] (fun Γ => M.bnd ((fun Γ => rdv Γ 1) Γ) itemsK) (gT 2 (gsCons (gN 4) (gsCons (gN 5) gsNil))) (fun Γ => M.bnd (bin D.ne (bin D.ix (fun Γ => M.bnd ((fun Γ => consM ((fun Γ => rdv Γ 3) Γ) ((fun Γ => consM ((fun Γ => rdv Γ 0) Γ) ((fun Γ => consM ((fun Γ => rdv Γ 4) Γ) ((fun _ => M.ret []) Γ)) Γ)) Γ)) Γ) (callK 3 f__law_givens)) (un1 D.neg (fun _ => M.ret (D.int 1)))) (fun Γ => rdv Γ 5) Γ) asB) (fun _ => M.ret (D.int 1)))
def m__law_fitting_1 : Ga → M Fl := (fun Γ => ifM ((fun Γ => M.bnd (bin D.eq (lstOf c__law_fitting_1) (fun Γ => M.bnd ((fun _ => M.ret []) Γ) lstK) Γ) asB) Γ) ((appM 2 (fun Γ => rdv Γ 3)) Γ) (nxM Γ))
def b__law_fitting_1 : Ga → M Fl := m__law_fitting_1
def m__law_fitting_2 : Ga → M Fl := (forM' (fun Γ => M.bnd ((fun Γ => M.bnd (M.ret []) (callK 0 f__law_every_rule)) Γ) itemsK) (gN 3) b__law_fitting_1)
def m__law_fitting : Ga → M Fl := (seqM (ownM 2 (fun Γ => M.bnd ((fun _ => M.ret []) Γ) lenK))
  (seqM m__law_fitting_2
  (fun Γ => (retM (fun Γ => rdv Γ 2)) (frz 2 Γ))))
def f__law_fitting : List D → M D := runD 6 m__law_fitting
theorem ok__law_fitting (T : Tx K mg) (TB : TBs K mg base tfL) : OkF (gx K) P w K mg base 3 "_law_fitting" ["start", "cards"] f__law_fitting := by
  refine okF (g := gx K) (N := ["start", "cards", "found", "one", "row", "given"]) (m := m__law_fitting) (k := 2) T.d__law_fitting sc__law_fitting (by decide) (fun _ _ _ _ _ _ us hl => match us, hl with | [_, _], _ => rfl) (fun f cdv A outer s H E hr => ?_)
  have h : PDSs (gx K) E (cxOf (L2N.CX P w) P w K mg base ["start", "cards", "found", "one", "row", "given"] "_law_fitting" (defScope s__law_fitting) f cdv A outer s H E) (defBody s__law_fitting) _ _ := (pds_cons (pds_ow (i := 2) sc__law_fitting.nd rfl (by first | exact Or.inl rfl | exact Or.inr rfl) (pn_lst pa_n))
      (pds_cons (pds_for (passes_of rfl) rfl (pi_any (pd_f0 (ok__law_every_rule T TB) hr (by decide) (L2N.passes_call (L2N.takes_of rfl rfl rfl rfl) (fun _ _ _ _ h => h)))) (pg_n (pg_name (i := 3) sc__law_fitting.nd rfl (by first | exact Or.inl rfl | exact Or.inr rfl))) (pds_one (pds_if (pt_eq hr (PD.pb (PN.pd (pn_lc rfl sc__law_fitting.nd (pi_any (pd_v (pv 1))) (blkOk_by (own := [("row", 4), ("given", 5)]) (by kernel_rfl)) (fun s H C cl fp => ⟨_, (pg_t (n := 2) rfl (pgs_c (pg_n (pg_name (i := 4) sc__law_fitting.nd rfl (by first | exact Or.inl rfl | exact Or.inr rfl))) (pgs_c (pg_n (pg_name (i := 5) sc__law_fitting.nd rfl (by first | exact Or.inl rfl | exact Or.inr rfl))) pgs_n))), (own_t (owns_cons (own_n (by decide)) mono_n (owns_cons (own_n (by decide)) mono_n owns_nil mono_nil) (mono_cons mono_n mono_nil))), (mono_t (mono_cons mono_n (mono_cons mono_n mono_nil)))⟩) (fun s H C cl fp => ⟨_, (pdts_1 (pt_ne hr (PD.pb (pd_ix (PD.pb (pd_f (ok__law_givens T TB) hr (by decide) passN (pa_c (pd_v (pv 3)) (pa_c (pd_v (pv 0)) (pa_c (pd_v (pv 4)) pa_n))))) (PD.pb (pd_neg (PD.pb pd_int))))) (PD.pb (pd_v (pv 5)))))⟩) (fun s H C cl fp => ⟨_, pd_int⟩)))) (PD.pb (pd_lst pa_n))) (pds_one (pds_append (pv 2) (pd_v (pv 3)))) pds_nil)))
      (pds_one (pds_frz 2 (pds_ret (pd_v (pv 2)))))))
  exact ⟨_, h⟩
def b__law_cards_1 : Ga → M Fl := (seqM (asgM (fun Γ => M.bnd ((fun Γ => consM ((fun Γ => rdv Γ 0) Γ) ((fun Γ => consM ((fun _ => M.ret (D.int 12)) Γ) ((fun _ => M.ret []) Γ)) Γ)) Γ) (callK 2 f__law_row)) (gN 5))
  (seqM (asgM (bin D.ix (fun Γ => M.bnd ((fun Γ => consM ((fun Γ => rdv Γ 1) Γ) ((fun Γ => consM ((fun Γ => rdv Γ 2) Γ) ((fun Γ => consM ((fun Γ => rdv Γ 5) Γ) ((fun _ => M.ret []) Γ)) Γ)) Γ)) Γ) (callK 3 f__law_givens)) (un1 D.neg (fun _ => M.ret (D.int 1)))) (gN 6))
  (asgM (bin D.add (fun Γ => rdv Γ 3) (fun Γ => M.bnd ((fun Γ => consM ((fun Γ => M.bnd ((fun Γ => consM ((fun Γ => rdv Γ 5) Γ) ((fun Γ => consM ((fun Γ => ifM ((fun Γ => M.bnd (bin D.eq (fun Γ => M.bnd ((fun Γ => consM ((fun Γ => rdv Γ 0) Γ) ((fun Γ => consM ((fun _ => M.ret (D.int 12)) Γ) ((fun _ => M.ret []) Γ)) Γ)) Γ) (callK 2 f__law_take)) (fun _ => M.ret (D.int 0)) Γ) asB) Γ) ((fun Γ => M.bnd ((fun Γ => consM ((fun Γ => rdv Γ 0) Γ) ((fun Γ => consM ((fun _ => M.ret (D.int 4)) Γ) ((fun _ => M.ret []) Γ)) Γ)) Γ) (callK 2 f__law_take)) Γ) ((fun Γ => rdv Γ 6) Γ)) Γ) ((fun _ => M.ret []) Γ)) Γ)) Γ) tupK) Γ) ((fun _ => M.ret []) Γ)) Γ) tupK)) (gN 3))))
def m__law_cards_1 : Ga → M Fl := (forM' (fun Γ => M.bnd ((fun Γ => consM ((fun Γ => M.bnd ((fun Γ => consM ((fun Γ => rdv Γ 0) Γ) ((fun Γ => consM ((fun _ => M.ret (D.int 5)) Γ) ((fun _ => M.ret []) Γ)) Γ)) Γ) (callK 2 f__law_take)) Γ) ((fun _ => M.ret []) Γ)) Γ) rng1K) (gN 4) b__law_cards_1)
def m__law_cards : Ga → M Fl := (seqM (asgM (fun Γ => M.bnd ((fun _ => M.ret []) Γ) tupK) (gN 3))
  (seqM m__law_cards_1
  (retM (fun Γ => rdv Γ 3))))
def f__law_cards : List D → M D := runD 7 m__law_cards
theorem ok__law_cards (T : Tx K mg) (TB : TBs K mg base tfL) : OkF (gx K) P w K mg base 4 "_law_cards" ["bag", "rule_so", "start"] f__law_cards := by
  refine okF (g := gx K) (N := ["bag", "rule_so", "start", "found", "turn", "row", "given"]) (m := m__law_cards) (k := 3) T.d__law_cards sc__law_cards (by decide) (fun _ _ _ _ _ _ us hl => match us, hl with | [_, _, _], _ => rfl) (fun f cdv A outer s H E hr => ?_)
  have h : PDSs (gx K) E (cxOf (L2N.CX P w) P w K mg base ["bag", "rule_so", "start", "found", "turn", "row", "given"] "_law_cards" (defScope s__law_cards) f cdv A outer s H E) (defBody s__law_cards) _ _ := (pds_cons (pds_st (i := 3) sc__law_cards.nd rfl (by first | exact Or.inl rfl | exact Or.inr rfl) (pd_tup pa_n))
      (pds_cons (pds_for (passes_of rfl) rfl (pi_r1 T.z_range (pa_c (pd_f (ok__law_take T TB) hr (by decide) (L2N.passes_call (L2N.takes_of rfl rfl rfl rfl) (fun _ _ _ _ h => h)) (pa_c (pd_v (pv 0)) (pa_c pd_int pa_n))) pa_n)) (pg_n (pg_name (i := 4) sc__law_cards.nd rfl (by first | exact Or.inl rfl | exact Or.inr rfl))) (pds_cons (pds_st (i := 5) sc__law_cards.nd rfl (by first | exact Or.inl rfl | exact Or.inr rfl) (pd_f (ok__law_row T TB) hr (by decide) (L2N.passes_call (L2N.takes_of rfl rfl rfl rfl) (fun _ _ _ _ h => h)) (pa_c (pd_v (pv 0)) (pa_c pd_int pa_n))))
      (pds_cons (pds_st (i := 6) sc__law_cards.nd rfl (by first | exact Or.inl rfl | exact Or.inr rfl) (pd_ix (PD.pb (pd_f (ok__law_givens T TB) hr (by decide) (L2N.passes_call (L2N.takes_of rfl rfl rfl rfl) (fun _ _ _ _ h => h)) (pa_c (pd_v (pv 1)) (pa_c (pd_v (pv 2)) (pa_c (pd_v (pv 5)) pa_n))))) (PD.pb (pd_neg (PD.pb pd_int)))))
      (pds_one (pds_st (i := 3) sc__law_cards.nd rfl (by first | exact Or.inl rfl | exact Or.inr rfl) (pd_op op_addD od_add (PD.pb (pd_v (pv 3))) (PD.pb (pd_tup (pa_c (pd_tup (pa_c (pd_v (pv 5)) (pa_c (pd_if (pt_eq hr (PD.pb (pd_f (ok__law_take T TB) hr (by decide) (L2N.passes_call (L2N.takes_of rfl rfl rfl rfl) (fun _ _ _ _ h => h)) (pa_c (pd_v (pv 0)) (pa_c pd_int pa_n)))) (PD.pb pd_int)) (pd_f (ok__law_take T TB) hr (by decide) (L2N.passes_call (L2N.takes_of rfl rfl rfl rfl) (fun _ _ _ _ h => h)) (pa_c (pd_v (pv 0)) (pa_c pd_int pa_n))) (pd_v (pv 6))) pa_n))) pa_n)))))))))
      (pds_one (pds_ret (pd_v (pv 3))))))
  exact ⟨_, h⟩
def m__law_refused_1 : Ga → M Fl := (fun Γ => ifM ((fun Γ => M.bnd (bin D.ne (errM Lb (fun Γ => M.bnd ((fun Γ => consM ((fun _ => M.ret (D.int 0)) Γ) ((fun Γ => consM ((fun Γ => rdv Γ 1) Γ) ((fun _ => M.ret []) Γ)) Γ)) Γ) (callK 2 f_rules_told))) (fun _ => M.ret (D.str "cards")) Γ) asB) Γ) ((retM (fun _ => M.ret (D.bl false))) Γ) (nxM Γ))
def m__law_refused_2 : Ga → M Fl := (fun Γ => ifM ((fun Γ => M.bnd (bin D.ne (errM Lb (fun Γ => M.bnd ((fun Γ => consM ((fun _ => M.ret (D.int 0)) Γ) ((fun Γ => consM ((fun Γ => rdv Γ 1) Γ) ((fun Γ => consM ((fun _ => M.ret D.non) Γ) ((fun _ => M.ret []) Γ)) Γ)) Γ)) Γ) (callK 3 f_surely))) (fun _ => M.ret (D.str "cards")) Γ) asB) Γ) ((retM (fun _ => M.ret (D.bl false))) Γ) (nxM Γ))
def b__law_refused_1 : Ga → M Fl := (seqM m__law_refused_1
  m__law_refused_2)
def m__law_refused_3 : Ga → M Fl := (forM' (fun Γ => M.bnd ((bin D.add (fun Γ => rdv Γ 0) (fun Γ => M.bnd ((fun Γ => consM ((bin D.repT (fun Γ => M.bnd ((fun Γ => consM ((fun Γ => M.bnd ((fun Γ => consM ((fun _ => M.ret (D.str "0")) Γ) ((fun Γ => consM ((fun _ => M.ret (D.int 0)) Γ) ((fun _ => M.ret []) Γ)) Γ)) Γ) tupK) Γ) ((fun _ => M.ret []) Γ)) Γ) tupK) (fun _ => M.ret (D.int 5))) Γ) ((fun Γ => consM ((fun Γ => M.bnd ((fun Γ => consM ((fun Γ => M.bnd ((fun Γ => consM ((bin D.repS (fun _ => M.ret (D.str "0")) (fun _ => M.ret (D.int 41))) Γ) ((fun Γ => consM ((fun _ => M.ret (D.int 0)) Γ) ((fun _ => M.ret []) Γ)) Γ)) Γ) tupK) Γ) ((fun _ => M.ret []) Γ)) Γ) tupK) Γ) ((fun Γ => consM ((fun Γ => M.bnd ((fun Γ => consM ((fun Γ => M.bnd ((fun Γ => consM ((fun _ => M.ret (D.str "0")) Γ) ((fun Γ => consM ((fun _ => M.ret (D.int 0)) Γ) ((fun Γ => consM ((fun _ => M.ret (D.int 0)) Γ) ((fun _ => M.ret []) Γ)) Γ)) Γ)) Γ) tupK) Γ) ((fun _ => M.ret []) Γ)) Γ) tupK) Γ) ((fun _ => M.ret []) Γ)) Γ)) Γ)) Γ) lstK)) Γ) itemsK) (gN 1) b__law_refused_1)
def m__law_refused_4 : Ga → M Fl := (fun Γ => ifM ((fun Γ => notM ((fun Γ => M.bnd ((refM Lb 1 (fun Γ => M.bnd ((fun Γ => consM ((fun _ => M.ret (D.int 0)) Γ) ((fun Γ => consM ((fun Γ => M.bnd ((fun _ => M.ret []) Γ) tupK) Γ) ((fun Γ => consM ((fun Γ => rdv Γ 1) Γ) ((fun _ => M.ret []) Γ)) Γ)) Γ)) Γ) (callK 3 f_surely)) (fun Γ => consM ((fun Γ => M.bnd (M.ret []) (callK 0 f__law_bad_rows)) Γ) ((fun Γ => consM ((fun _ => M.ret (D.str "row")) Γ) ((fun _ => M.ret []) Γ)) Γ))) Γ) asB) Γ)) Γ) ((retM (fun _ => M.ret (D.bl false))) Γ) (nxM Γ))
def m__law_refused_5 : Ga → M Fl := (fun Γ => ifM ((fun Γ => notM ((fun Γ => M.bnd ((refM Lb 1 (fun Γ => M.bnd ((fun Γ => consM ((fun Γ => rdv Γ 1) Γ) ((fun Γ => consM ((fun _ => M.ret D.non) Γ) ((fun Γ => consM ((fun _ => M.ret D.non) Γ) ((fun _ => M.ret []) Γ)) Γ)) Γ)) Γ) (callK 3 f_surely)) (fun Γ => consM ((fun Γ => M.bnd (M.ret []) (callK 0 f__law_bad_starts)) Γ) ((fun Γ => consM ((fun _ => M.ret (D.str "start")) Γ) ((fun _ => M.ret []) Γ)) Γ))) Γ) asB) Γ)) Γ) ((retM (fun _ => M.ret (D.bl false))) Γ) (nxM Γ))
def m__law_refused : Ga → M Fl := (seqM (asgM (fun Γ => M.bnd ((fun Γ => consM ((fun _ => M.ret D.non) Γ) ((fun Γ => consM ((fun Γ => M.bnd ((fun _ => M.ret []) Γ) lstK) Γ) ((fun Γ => consM ((fun Γ => M.bnd ((fun Γ => consM ((fun _ => M.ret (D.str "0")) Γ) ((fun Γ => consM ((fun _ => M.ret (D.int 0)) Γ) ((fun _ => M.ret []) Γ)) Γ)) Γ) tupK) Γ) ((fun Γ => consM ((fun Γ => M.bnd ((fun Γ => consM ((fun Γ => M.bnd ((fun Γ => consM ((fun _ => M.ret (D.str "0")) Γ) ((fun _ => M.ret []) Γ)) Γ) tupK) Γ) ((fun _ => M.ret []) Γ)) Γ) tupK) Γ) ((fun Γ => consM ((fun Γ => M.bnd ((fun Γ => consM ((fun Γ => M.bnd ((fun Γ => consM ((fun _ => M.ret (D.str "0")) Γ) ((fun Γ => consM ((fun _ => M.ret (D.int 4)) Γ) ((fun _ => M.ret []) Γ)) Γ)) Γ) tupK) Γ) ((fun _ => M.ret []) Γ)) Γ) tupK) Γ) ((fun Γ => consM ((fun Γ => M.bnd ((fun Γ => consM ((fun Γ => M.bnd ((fun Γ => consM ((fun _ => M.ret (D.str "0")) Γ) ((fun Γ => consM ((un1 D.neg (fun _ => M.ret (D.int 1))) Γ) ((fun _ => M.ret []) Γ)) Γ)) Γ) tupK) Γ) ((fun _ => M.ret []) Γ)) Γ) tupK) Γ) ((fun Γ => consM ((fun Γ => M.bnd ((fun Γ => consM ((fun Γ => M.bnd ((fun Γ => consM ((fun _ => M.ret (D.str "4")) Γ) ((fun Γ => consM ((fun _ => M.ret (D.int 0)) Γ) ((fun _ => M.ret []) Γ)) Γ)) Γ) tupK) Γ) ((fun _ => M.ret []) Γ)) Γ) tupK) Γ) ((fun Γ => consM ((fun Γ => M.bnd ((fun Γ => consM ((fun Γ => M.bnd ((fun Γ => consM ((fun _ => M.ret (D.str "0")) Γ) ((fun Γ => consM ((fun _ => M.ret (D.bl true)) Γ) ((fun _ => M.ret []) Γ)) Γ)) Γ) tupK) Γ) ((fun _ => M.ret []) Γ)) Γ) tupK) Γ) ((fun Γ => consM ((fun Γ => M.bnd ((fun Γ => consM ((fun Γ => M.bnd ((fun Γ => consM ((fun _ => M.ret (D.str "0")) Γ) ((fun Γ => consM ((fun _ => M.ret (D.int 0)) Γ) ((fun _ => M.ret []) Γ)) Γ)) Γ) lstK) Γ) ((fun _ => M.ret []) Γ)) Γ) tupK) Γ) ((fun _ => M.ret []) Γ)) Γ)) Γ)) Γ)) Γ)) Γ)) Γ)) Γ)) Γ)) Γ) lstK) (gN 0))
  (seqM m__law_refused_3
  (seqM m__law_refused_4
  (seqM m__law_refused_5
  (retM (refM Lb 1 (fun Γ => M.bnd ((fun Γ => consM ((fun Γ => rdv Γ 1) Γ) ((fun Γ => consM ((fun _ => M.ret D.non) Γ) ((fun _ => M.ret []) Γ)) Γ)) Γ) (callK 2 f_rules_told)) (fun Γ => consM ((fun Γ => M.bnd (M.ret []) (callK 0 f__law_bad_starts)) Γ) ((fun Γ => consM ((fun _ => M.ret (D.str "start")) Γ) ((fun _ => M.ret []) Γ)) Γ))))))))
def f__law_refused : List D → M D := runD 2 m__law_refused
theorem ok__law_refused (T : Tx K mg) (TB : TBs K mg base tfL) : OkF (gx K) P w K mg base 10 "_law_refused" [] f__law_refused := by
  refine okFc (g := gx K) (N := ["odds", "odd"]) (m := m__law_refused) (k := 9) T.d__law_refused sc__law_refused (by decide) (fun _ _ _ _ _ _ us hl => match us, hl with | [], _ => rfl) (fun f A outer s H E hr => ?_)
  have h : PDSs (gx K) E (cxOf (L2N.CX P w) P w K mg base ["odds", "odd"] "_law_refused" (defScope s__law_refused) f (.ref (He.codeOf K ("_law_refused", none))) A outer s H E) (defBody s__law_refused) _ _ := (pds_cons (pds_st (i := 0) sc__law_refused.nd rfl (by first | exact Or.inl rfl | exact Or.inr rfl) (pd_lst (pa_c pd_non (pa_c (pd_lst pa_n) (pa_c (pd_tup (pa_c pd_str (pa_c pd_int pa_n))) (pa_c (pd_tup (pa_c (pd_tup (pa_c pd_str pa_n)) pa_n)) (pa_c (pd_tup (pa_c (pd_tup (pa_c pd_str (pa_c pd_int pa_n))) pa_n)) (pa_c (pd_tup (pa_c (pd_tup (pa_c pd_str (pa_c (pd_neg (PD.pb pd_int)) pa_n))) pa_n)) (pa_c (pd_tup (pa_c (pd_tup (pa_c pd_str (pa_c pd_int pa_n))) pa_n)) (pa_c (pd_tup (pa_c (pd_tup (pa_c pd_str (pa_c pd_bl pa_n))) pa_n)) (pa_c (pd_tup (pa_c (pd_lst (pa_c pd_str (pa_c pd_int pa_n))) pa_n)) pa_n)))))))))))
      (pds_cons (pds_for (passes_of rfl) rfl (pi_any (pd_op op_addD od_add (PD.pb (pd_v (pv 0))) (PD.pb (pd_lst (pa_c (pd_op op_repT od_repT (PD.pb (pd_tup (pa_c (pd_tup (pa_c pd_str (pa_c pd_int pa_n))) pa_n))) (PD.pb pd_int)) (pa_c (pd_tup (pa_c (pd_tup (pa_c (pd_op op_repS od_repS (PD.pb pd_str) (PD.pb pd_int)) (pa_c pd_int pa_n))) pa_n)) (pa_c (pd_tup (pa_c (pd_tup (pa_c pd_str (pa_c pd_int (pa_c pd_int pa_n)))) pa_n)) pa_n))))))) (pg_n (pg_name (i := 1) sc__law_refused.nd rfl (by first | exact Or.inl rfl | exact Or.inr rfl))) (pds_cons (pds_if (pt_ne hr (PD.pb (pd_lErr (k := 7) (ok__law_error T) (lamF_by rfl TB (by decide) rfl rfl (by kernel_rfl)) hr (by decide) (fun A outer s H E f c' st hr => ⟨_, (pd_f (ok_rules_told T TB) hr (by decide) (L2N.passes_call (L2N.takes_of rfl rfl rfl rfl) (fun _ _ _ _ h => h)) (pa_c pd_int (pa_c (pd_v (pv 1)) pa_n)))⟩))) (PD.pb pd_str)) (pds_one (pds_ret pd_bl)) pds_nil)
      (pds_one (pds_if (pt_ne hr (PD.pb (pd_lErr (k := 7) (ok__law_error T) (lamF_by rfl TB (by decide) rfl rfl (by kernel_rfl)) hr (by decide) (fun A outer s H E f c' st hr => ⟨_, (pd_f (ok_surely T TB) hr (by decide) (L2N.passes_call (L2N.takes_of rfl rfl rfl rfl) (fun _ _ _ _ h => h)) (pa_c pd_int (pa_c (pd_v (pv 1)) (pa_c pd_non pa_n))))⟩))) (PD.pb pd_str)) (pds_one (pds_ret pd_bl)) pds_nil))))
      (pds_cons (pds_if (pt_n (pt_v (pd_ref (k := 5) (i := 1) (ok__law_all_refused T TB) (lamF1_by rfl TB (by decide) (fun _ => rfl) rfl rfl (by kernel_rfl)) hr sc__law_refused.nd rfl (L2N.passes_call (L2N.takes_of rfl rfl rfl rfl) (fun _ _ _ _ h => h)) (fun A outer s H E f c' hr => ⟨_, (pd_f (ok_surely T TB) hr (by decide) (L2N.passes_call (L2N.takes_of rfl rfl rfl rfl) (fun _ _ _ _ h => h)) (pa_c pd_int (pa_c (pd_tup pa_n) (pa_c (pd_v (pv 1)) pa_n))))⟩) (pa_c (pd_f0 (ok__law_bad_rows T TB) hr (by decide) (L2N.passes_call (L2N.takes_of rfl rfl rfl rfl) (fun _ _ _ _ h => h))) (pa_c pd_str pa_n))))) (pds_one (pds_ret pd_bl)) pds_nil)
      (pds_cons (pds_if (pt_n (pt_v (pd_ref (k := 5) (i := 1) (ok__law_all_refused T TB) (lamF1_by rfl TB (by decide) (fun _ => rfl) rfl rfl (by kernel_rfl)) hr sc__law_refused.nd rfl (L2N.passes_call (L2N.takes_of rfl rfl rfl rfl) (fun _ _ _ _ h => h)) (fun A outer s H E f c' hr => ⟨_, (pd_f (ok_surely T TB) hr (by decide) (L2N.passes_call (L2N.takes_of rfl rfl rfl rfl) (fun _ _ _ _ h => h)) (pa_c (pd_v (pv 1)) (pa_c pd_non (pa_c pd_non pa_n))))⟩) (pa_c (pd_f0 (ok__law_bad_starts T TB) hr (by decide) (L2N.passes_call (L2N.takes_of rfl rfl rfl rfl) (fun _ _ _ _ h => h))) (pa_c pd_str pa_n))))) (pds_one (pds_ret pd_bl)) pds_nil)
      (pds_one (pds_ret (pd_ref (k := 5) (i := 1) (ok__law_all_refused T TB) (lamF1_by rfl TB (by decide) (fun _ => rfl) rfl rfl (by kernel_rfl)) hr sc__law_refused.nd rfl (L2N.passes_call (L2N.takes_of rfl rfl rfl rfl) (fun _ _ _ _ h => h)) (fun A outer s H E f c' hr => ⟨_, (pd_f (ok_rules_told T TB) hr (by decide) (L2N.passes_call (L2N.takes_of rfl rfl rfl rfl) (fun _ _ _ _ h => h)) (pa_c (pd_v (pv 1)) (pa_c pd_non pa_n)))⟩) (pa_c (pd_f0 (ok__law_bad_starts T TB) hr (by decide) (L2N.passes_call (L2N.takes_of rfl rfl rfl rfl) (fun _ _ _ _ h => h))) (pa_c pd_str pa_n)))))))))
  exact ⟨_, h⟩
def m_law_1 : Ga → M Fl := (fun Γ => ifM ((fun Γ => orM ((fun Γ => M.bnd (bin D.ne (fun Γ => rdv Γ 8) (fun Γ => rdv Γ 7) Γ) asB) Γ) ((fun Γ => notM ((fun Γ => M.bnd ((fun Γ => M.bnd ((fun Γ => consM ((fun Γ => rdv Γ 8) Γ) ((fun Γ => consM ((fun _ => M.ret (D.obj (.ty "list"))) Γ) ((fun _ => M.ret []) Γ)) Γ)) Γ) fun xs => opt (D.isi xs)) Γ) asB) Γ)) Γ)) Γ) ((retM (fun _ => M.ret (D.bl false))) Γ) (nxM Γ))
def c_law_1 : Ga → M (List D) := (compM [10] (fun Γ => M.bnd ((fun Γ => rdv Γ 7) Γ) itemsK) (gN 10) (fun _ => M.ret true) (bin D.ix (fun Γ => M.bnd ((fun Γ => consM ((fun Γ => rdv Γ 10) Γ) ((fun Γ => consM ((fun Γ => rdv Γ 4) Γ) ((fun Γ => consM ((fun Γ => rdv Γ 6) Γ) ((fun _ => M.ret []) Γ)) Γ)) Γ)) Γ) (callK 3 f__law_givens)) (un1 D.neg (fun _ => M.ret (D.int 1)))))
def m_law_2 : Ga → M Fl := (fun Γ => ifM ((fun Γ => M.bnd (bin D.ne (fun Γ => M.bnd ((fun Γ => consM ((fun Γ => rdv Γ 4) Γ) ((fun Γ => consM ((fun Γ => rdv Γ 5) Γ) ((fun Γ => consM ((fun Γ => rdv Γ 6) Γ) ((fun _ => M.ret []) Γ)) Γ)) Γ)) Γ) (callK 3 f_surely)) (fun Γ => ifM ((fun Γ => M.bnd (bin D.eq (fun Γ => M.bnd ((fun Γ => consM ((fun Γ => rdv Γ 9) Γ) ((fun _ => M.ret []) Γ)) Γ) fun xs => opt (D.len xs)) (fun _ => M.ret (D.int 1)) Γ) asB) Γ) ((bin D.ix (fun Γ => rdv Γ 9) (fun _ => M.ret (D.int 0))) Γ) ((fun _ => M.ret D.non) Γ)) Γ) asB) Γ) ((retM (fun _ => M.ret (D.bl false))) Γ) (nxM Γ))
def m_law_3 : Ga → M Fl := (seqM (asgM (fun Γ => M.bnd ((fun Γ => consM ((fun Γ => M.bnd ((fun Γ => consM ((fun Γ => rdv Γ 2) Γ) ((fun _ => M.ret []) Γ)) Γ) (callK 1 f__law_rule)) Γ) ((fun Γ => consM ((fun Γ => M.bnd ((fun Γ => consM ((fun Γ => rdv Γ 2) Γ) ((fun Γ => consM ((fun _ => M.ret (D.int 4)) Γ) ((fun _ => M.ret []) Γ)) Γ)) Γ) (callK 2 f__law_take)) Γ) ((fun _ => M.ret []) Γ)) Γ)) Γ) tupK) (gT 2 (gsCons (gN 3) (gsCons (gN 4) gsNil))))
  (seqM (asgM (fun Γ => M.bnd ((fun Γ => consM ((fun Γ => M.bnd ((fun Γ => consM ((fun Γ => rdv Γ 2) Γ) ((fun Γ => consM ((fun Γ => rdv Γ 3) Γ) ((fun Γ => consM ((fun Γ => rdv Γ 4) Γ) ((fun _ => M.ret []) Γ)) Γ)) Γ)) Γ) (callK 3 f__law_cards)) Γ) ((fun Γ => consM ((fun Γ => M.bnd ((fun Γ => consM ((fun Γ => rdv Γ 2) Γ) ((fun Γ => consM ((fun _ => M.ret (D.int 12)) Γ) ((fun _ => M.ret []) Γ)) Γ)) Γ) (callK 2 f__law_row)) Γ) ((fun _ => M.ret []) Γ)) Γ)) Γ) tupK) (gT 2 (gsCons (gN 5) (gsCons (gN 6) gsNil))))
  (seqM (asgM (fun Γ => M.bnd ((fun Γ => consM ((fun Γ => rdv Γ 4) Γ) ((fun Γ => consM ((fun Γ => rdv Γ 5) Γ) ((fun _ => M.ret []) Γ)) Γ)) Γ) (callK 2 f__law_fitting)) (gN 7))
  (seqM (asgM (fun Γ => M.bnd ((fun Γ => consM ((fun Γ => rdv Γ 4) Γ) ((fun Γ => consM ((fun Γ => rdv Γ 5) Γ) ((fun _ => M.ret []) Γ)) Γ)) Γ) (callK 2 f_rules_told)) (gN 8))
  (seqM m_law_1
  (seqM (asgM (un1 D.sset (lstOf c_law_1)) (gN 9))
  m_law_2))))))
def b_law_1 : Ga → M Fl := (bagM 2 (fun Γ => M.bnd ((fun Γ => consM ((fun Γ => rdv Γ 0) Γ) ((fun Γ => consM ((fun Γ => rdv Γ 1) Γ) ((fun _ => M.ret []) Γ)) Γ)) Γ) (callN 2 f__law_bag)) m_law_3)
def m_law_4 : Ga → M Fl := (forM' (fun Γ => M.bnd ((fun Γ => consM ((fun _ => M.ret (D.int 4)) Γ) ((fun _ => M.ret []) Γ)) Γ) rng1K) (gN 1) b_law_1)
def m_law_5 : Ga → M Fl := (fun Γ => ifM ((fun Γ => orM ((fun Γ => notM ((fun Γ => M.bnd ((fun Γ => M.bnd (M.ret []) (callK 0 f__law_refused)) Γ) asB) Γ)) Γ) ((fun Γ => orM ((fun Γ => M.bnd (bin D.ne (fun Γ => M.bnd ((fun Γ => consM ((fun _ => M.ret (D.int 0)) Γ) ((fun Γ => consM ((fun Γ => M.bnd ((fun _ => M.ret []) Γ) tupK) Γ) ((fun _ => M.ret []) Γ)) Γ)) Γ) (callK 2 f_rules_told)) (fun Γ => M.bnd (M.ret []) (callK 0 f__law_every_rule)) Γ) asB) Γ) ((fun Γ => M.bnd (bin D.ne (fun Γ => M.bnd ((fun Γ => consM ((fun _ => M.ret (D.int 0)) Γ) ((fun Γ => consM ((fun Γ => M.bnd ((fun Γ => consM ((fun Γ => M.bnd ((fun Γ => consM ((fun _ => M.ret (D.str "0")) Γ) ((fun Γ => consM ((fun _ => M.ret (D.int 1)) Γ) ((fun _ => M.ret []) Γ)) Γ)) Γ) tupK) Γ) ((fun _ => M.ret []) Γ)) Γ) tupK) Γ) ((fun _ => M.ret []) Γ)) Γ)) Γ) (callK 2 f_rules_told)) (fun Γ => M.bnd ((fun _ => M.ret []) Γ) lstK) Γ) asB) Γ)) Γ)) Γ) ((retM (fun _ => M.ret (D.bl false))) Γ) (nxM Γ))
def m_law_6 : Ga → M Fl := (fun Γ => ifM ((fun Γ => orM ((fun Γ => M.bnd (bin D.ne (fun Γ => M.bnd ((fun Γ => consM ((fun _ => M.ret (D.int 0)) Γ) ((fun Γ => consM ((fun Γ => M.bnd ((fun Γ => consM ((fun Γ => M.bnd ((fun Γ => consM ((fun _ => M.ret (D.str "3")) Γ) ((fun Γ => consM ((fun _ => M.ret (D.int 3)) Γ) ((fun _ => M.ret []) Γ)) Γ)) Γ) tupK) Γ) ((fun _ => M.ret []) Γ)) Γ) tupK) Γ) ((fun Γ => consM ((fun _ => M.ret (D.str "3")) Γ) ((fun _ => M.ret []) Γ)) Γ)) Γ)) Γ) (callK 3 f_surely)) (fun _ => M.ret (D.int 3)) Γ) asB) Γ) ((fun Γ => orM ((fun Γ => M.bnd (bin D.ne (fun Γ => M.bnd ((fun Γ => consM ((fun _ => M.ret (D.int 0)) Γ) ((fun Γ => consM ((fun Γ => M.bnd ((fun _ => M.ret []) Γ) tupK) Γ) ((fun Γ => consM ((fun _ => M.ret (D.str "0")) Γ) ((fun _ => M.ret []) Γ)) Γ)) Γ)) Γ) (callK 3 f_surely)) (fun _ => M.ret (D.int 0)) Γ) asB) Γ) ((fun Γ => M.bnd (bin D.isNN (fun Γ => M.bnd ((fun Γ => consM ((fun _ => M.ret (D.int 0)) Γ) ((fun Γ => consM ((fun Γ => M.bnd ((fun _ => M.ret []) Γ) tupK) Γ) ((fun Γ => consM ((fun _ => M.ret (D.str "3")) Γ) ((fun _ => M.ret []) Γ)) Γ)) Γ)) Γ) (callK 3 f_surely)) (fun _ => M.ret D.non) Γ) asB) Γ)) Γ)) Γ) ((retM (fun _ => M.ret (D.bl false))) Γ) (nxM Γ))
def m_law : Ga → M Fl := (seqM m_law_4
  (seqM m_law_5
  (seqM m_law_6
  (retM (fun Γ => andV ((bin D.isN (fun Γ => M.bnd ((fun Γ => consM ((fun _ => M.ret (D.int 0)) Γ) ((fun Γ => consM ((fun Γ => M.bnd ((fun Γ => consM ((fun Γ => M.bnd ((fun Γ => consM ((fun _ => M.ret (D.str "0")) Γ) ((fun Γ => consM ((fun _ => M.ret (D.int 1)) Γ) ((fun _ => M.ret []) Γ)) Γ)) Γ) tupK) Γ) ((fun _ => M.ret []) Γ)) Γ) tupK) Γ) ((fun Γ => consM ((fun _ => M.ret (D.str "0")) Γ) ((fun _ => M.ret []) Γ)) Γ)) Γ)) Γ) (callK 3 f_surely)) (fun _ => M.ret D.non)) Γ) ((fun Γ => andV ((bin D.eq (fun Γ => M.bnd ((fun Γ => consM ((fun _ => M.ret (D.int 2)) Γ) ((fun Γ => consM ((fun Γ => M.bnd ((fun _ => M.ret []) Γ) tupK) Γ) ((fun Γ => consM ((fun _ => M.ret (D.str "")) Γ) ((fun _ => M.ret []) Γ)) Γ)) Γ)) Γ) (callK 3 f_surely)) (fun _ => M.ret (D.int 2))) Γ) ((bin D.eq (fun Γ => M.bnd ((fun Γ => consM ((fun Γ => M.bnd ((fun Γ => consM ((fun _ => M.ret (D.int 1)) Γ) ((fun Γ => consM ((fun Γ => M.bnd ((fun Γ => consM ((fun Γ => M.bnd ((fun Γ => consM ((fun _ => M.ret (D.str "")) Γ) ((fun Γ => consM ((fun _ => M.ret (D.int 1)) Γ) ((fun _ => M.ret []) Γ)) Γ)) Γ) tupK) Γ) ((fun _ => M.ret []) Γ)) Γ) tupK) Γ) ((fun _ => M.ret []) Γ)) Γ)) Γ) (callK 2 f_rules_told)) Γ) ((fun _ => M.ret []) Γ)) Γ) fun xs => opt (D.len xs)) (fun _ => M.ret (D.int 144))) Γ)) Γ))))))
def f_law : List D → M D := runD 11 m_law
theorem ok_law (T : Tx K mg) (TB : TBs K mg base tfL) : OkF (gx K) P w K mg base 11 "law" ["script"] f_law := by
  refine okF (g := gx K) (N := ["script", "k", "bag", "one", "start", "cards_so", "row", "due", "found", "some", "other"]) (m := m_law) (k := 10) T.d_law sc_law (by decide) (fun _ _ _ _ _ _ us hl => match us, hl with | [_], _ => rfl) (fun f cdv A outer s H E hr => ?_)
  have h : PDSs (gx K) E (cxOf (L2N.CX P w) P w K mg base ["script", "k", "bag", "one", "start", "cards_so", "row", "due", "found", "some", "other"] "law" (defScope s_law) f cdv A outer s H E) (defBody s_law) _ _ := (pds_cons (pds_for (passes_of rfl) rfl (pi_r1 T.z_range (pa_c pd_int pa_n)) (pg_n (pg_name (i := 1) sc_law.nd rfl (by first | exact Or.inl rfl | exact Or.inr rfl))) (pds_bagE (i := 2) sc_law.nd rfl (by first | exact Or.inl rfl | exact Or.inr rfl) (pn_f (ok__law_bag T TB) hr (by decide) (L2N.passes_call (L2N.takes_of rfl rfl rfl rfl) (fun _ _ _ _ h => h)) (noex_runN _ _ _) (pa_c (pd_v (pv 0)) (pa_c (pd_v (pv 1)) pa_n))) (pds_cons (pds_asg (pd_tup (pa_c (pd_f (ok__law_rule T TB) hr (by decide) (L2N.passes_call (L2N.takes_of rfl rfl rfl rfl) (fun _ _ _ _ h => h)) (pa_c (pd_v (pv 2)) pa_n)) (pa_c (pd_f (ok__law_take T TB) hr (by decide) (L2N.passes_call (L2N.takes_of rfl rfl rfl rfl) (fun _ _ _ _ h => h)) (pa_c (pd_v (pv 2)) (pa_c pd_int pa_n))) pa_n))) (pg_t (n := 2) rfl (pgs_c (pg_n (pg_name (i := 3) sc_law.nd rfl (by first | exact Or.inl rfl | exact Or.inr rfl))) (pgs_c (pg_n (pg_name (i := 4) sc_law.nd rfl (by first | exact Or.inl rfl | exact Or.inr rfl))) pgs_n))))
      (pds_cons (pds_asg (pd_tup (pa_c (pd_f (ok__law_cards T TB) hr (by decide) (L2N.passes_call (L2N.takes_of rfl rfl rfl rfl) (fun _ _ _ _ h => h)) (pa_c (pd_v (pv 2)) (pa_c (pd_v (pv 3)) (pa_c (pd_v (pv 4)) pa_n)))) (pa_c (pd_f (ok__law_row T TB) hr (by decide) (L2N.passes_call (L2N.takes_of rfl rfl rfl rfl) (fun _ _ _ _ h => h)) (pa_c (pd_v (pv 2)) (pa_c pd_int pa_n))) pa_n))) (pg_t (n := 2) rfl (pgs_c (pg_n (pg_name (i := 5) sc_law.nd rfl (by first | exact Or.inl rfl | exact Or.inr rfl))) (pgs_c (pg_n (pg_name (i := 6) sc_law.nd rfl (by first | exact Or.inl rfl | exact Or.inr rfl))) pgs_n))))
      (pds_cons (pds_st (i := 7) sc_law.nd rfl (by first | exact Or.inl rfl | exact Or.inr rfl) (pd_f (ok__law_fitting T TB) hr (by decide) (L2N.passes_call (L2N.takes_of rfl rfl rfl rfl) (fun _ _ _ _ h => h)) (pa_c (pd_v (pv 4)) (pa_c (pd_v (pv 5)) pa_n))))
      (pds_cons (pds_st (i := 8) sc_law.nd rfl (by first | exact Or.inl rfl | exact Or.inr rfl) (pd_f (ok_rules_told T TB) hr (by decide) (L2N.passes_call (L2N.takes_of rfl rfl rfl rfl) (fun _ _ _ _ h => h)) (pa_c (pd_v (pv 4)) (pa_c (pd_v (pv 5)) pa_n))))
      (pds_cons (pds_if (PDW.pt (pw_o (pt_ne hr (PD.pb (pd_v (pv 8))) (PD.pb (pd_v (pv 7)))) (pw_o1 (pt_n (pt_v (pd_callB call_isi cd_isi T.z_isinstance boot_isinstance (pab_c (PD.pb (pd_v (pv 8))) (pab_c (PD.pb (pd_ty T.z_list boot_list)) pab_n)))))))) (pds_one (pds_ret pd_bl)) pds_nil)
      (pds_cons (pds_st (i := 9) sc_law.nd rfl (by first | exact Or.inl rfl | exact Or.inr rfl) (pd_sset rfl T.z_sorted T.z_set (PD.pb (PN.pd (pn_lc rfl sc_law.nd (pi_any (pd_v (pv 7))) (blkOk_by (own := [("other", 10)]) (by kernel_rfl)) (fun s H C cl fp => ⟨_, (pg_n (pg_name (i := 10) sc_law.nd rfl (by first | exact Or.inl rfl | exact Or.inr rfl))), (own_n (by decide)), mono_n⟩) (fun s H C cl fp => ⟨_, pdts_n⟩) (fun s H C cl fp => ⟨_, (pd_ix (PD.pb (pd_f (ok__law_givens T TB) hr (by decide) passN (pa_c (pd_v (pv 10)) (pa_c (pd_v (pv 4)) (pa_c (pd_v (pv 6)) pa_n))))) (PD.pb (pd_neg (PD.pb pd_int))))⟩))))))
      (pds_one (pds_if (pt_ne hr (PD.pb (pd_f (ok_surely T TB) hr (by decide) (L2N.passes_call (L2N.takes_of rfl rfl rfl rfl) (fun _ _ _ _ h => h)) (pa_c (pd_v (pv 4)) (pa_c (pd_v (pv 5)) (pa_c (pd_v (pv 6)) pa_n))))) (PD.pb (pd_if (pt_eq hr (PD.pb (pd_callB cl_len cd_len T.z_len boot_len (pab_c (PD.pb (pd_v (pv 9))) pab_n))) (PD.pb pd_int)) (pd_ix (PD.pb (pd_v (pv 9))) (PD.pb pd_int)) pd_non))) (pds_one (pds_ret pd_bl)) pds_nil))))))))))
      (pds_cons (pds_if (PDW.pt (pw_o (pt_n (pt_v (pd_f0 (ok__law_refused T TB) hr (by decide) (L2N.passes_call (L2N.takes_of rfl rfl rfl rfl) (fun _ _ _ _ h => h))))) (pw_o (pt_ne hr (PD.pb (pd_f (ok_rules_told T TB) hr (by decide) (L2N.passes_call (L2N.takes_of rfl rfl rfl rfl) (fun _ _ _ _ h => h)) (pa_c pd_int (pa_c (pd_tup pa_n) pa_n)))) (PD.pb (pd_f0 (ok__law_every_rule T TB) hr (by decide) (L2N.passes_call (L2N.takes_of rfl rfl rfl rfl) (fun _ _ _ _ h => h))))) (pw_o1 (pt_ne hr (PD.pb (pd_f (ok_rules_told T TB) hr (by decide) (L2N.passes_call (L2N.takes_of rfl rfl rfl rfl) (fun _ _ _ _ h => h)) (pa_c pd_int (pa_c (pd_tup (pa_c (pd_tup (pa_c pd_str (pa_c pd_int pa_n))) pa_n)) pa_n)))) (PD.pb (pd_lst pa_n))))))) (pds_one (pds_ret pd_bl)) pds_nil)
      (pds_cons (pds_if (PDW.pt (pw_o (pt_ne hr (PD.pb (pd_f (ok_surely T TB) hr (by decide) (L2N.passes_call (L2N.takes_of rfl rfl rfl rfl) (fun _ _ _ _ h => h)) (pa_c pd_int (pa_c (pd_tup (pa_c (pd_tup (pa_c pd_str (pa_c pd_int pa_n))) pa_n)) (pa_c pd_str pa_n))))) (PD.pb pd_int)) (pw_o (pt_ne hr (PD.pb (pd_f (ok_surely T TB) hr (by decide) (L2N.passes_call (L2N.takes_of rfl rfl rfl rfl) (fun _ _ _ _ h => h)) (pa_c pd_int (pa_c (pd_tup pa_n) (pa_c pd_str pa_n))))) (PD.pb pd_int)) (pw_o1 (pt_cmp op_notN od_isNN (PD.pb (pd_f (ok_surely T TB) hr (by decide) (L2N.passes_call (L2N.takes_of rfl rfl rfl rfl) (fun _ _ _ _ h => h)) (pa_c pd_int (pa_c (pd_tup pa_n) (pa_c pd_str pa_n))))) (PD.pb pd_non)))))) (pds_one (pds_ret pd_bl)) pds_nil)
      (pds_one (pds_ret (pd_and (pd_cmp op_isN od_isN (PD.pb (pd_f (ok_surely T TB) hr (by decide) (L2N.passes_call (L2N.takes_of rfl rfl rfl rfl) (fun _ _ _ _ h => h)) (pa_c pd_int (pa_c (pd_tup (pa_c (pd_tup (pa_c pd_str (pa_c pd_int pa_n))) pa_n)) (pa_c pd_str pa_n))))) (PD.pb pd_non)) (pd_and (pd_eq hr (PD.pb (pd_f (ok_surely T TB) hr (by decide) (L2N.passes_call (L2N.takes_of rfl rfl rfl rfl) (fun _ _ _ _ h => h)) (pa_c pd_int (pa_c (pd_tup pa_n) (pa_c pd_str pa_n))))) (PD.pb pd_int)) (pd_one (pd_eq hr (PD.pb (pd_callB cl_len cd_len T.z_len boot_len (pab_c (PD.pb (pd_f (ok_rules_told T TB) hr (by decide) (L2N.passes_call (L2N.takes_of rfl rfl rfl rfl) (fun _ _ _ _ h => h)) (pa_c pd_int (pa_c (pd_tup (pa_c (pd_tup (pa_c pd_str (pa_c pd_int pa_n))) pa_n)) pa_n)))) pab_n))) (PD.pb pd_int))))))))))
  exact ⟨_, h⟩
end
end DL.WK09

set_option Elab.async false
set_option linter.all false
set_option maxRecDepth 100000
set_option maxHeartbeats 400000
/-! What holds whatever is drawn, . -/
namespace DL
open PySem PySem.Spec PyProof.Rows L2
/-- m ends well at every state, of which but the bag changes, and what it gives has P -/
def Hb {α : Type} (m : M α) (P : α → Prop) : Prop := ∀ bs : MS, ∃ a r, m bs = some (.ok a, { bs with bag := r }) ∧ P a
section
variable {α β : Type} {m : M α} {P : α → Prop} {Q : β → Prop}
theorem Hb.ret {a : α} (h : P a) : Hb (M.ret a) P := fun bs => ⟨a, bs.bag, rfl, h⟩
theorem Hb.bnd {f : α → M β} (h : Hb m P) (k : ∀ a, P a → Hb (f a) Q) : Hb (M.bnd m f) Q := fun bs => by
  obtain ⟨a, r1, e, p⟩ := h bs
  obtain ⟨b, r2, e2, q⟩ := k a p { bs with bag := r1 }
  exact ⟨b, r2, (bnd_ok e).trans e2, q⟩
theorem Hb.mono {P' : α → Prop} (h : Hb m P) (k : ∀ a, P a → P' a) : Hb m P' := fun bs => by
  obtain ⟨a, b1, e, p⟩ := h bs
  exact ⟨a, b1, e, k a p⟩
theorem Hb.calm (h : Hb m P) : Hb (DL.calm m) P := fun bs => by
  obtain ⟨a, b1, e, p⟩ := h bs
  exact ⟨a, b1, by unfold DL.calm; rw [e], p⟩
theorem Hb.eq {m' : M α} (e : m = m') (h : Hb m' P) : Hb m P := by rw [e]; exact h
theorem Hb.if_ {c : Bool} {a b : M α} (h1 : c = true → Hb a P) (h2 : c = false → Hb b P) : Hb (if c = true then a else b) P := by
  cases c with
  | true => exact h1 rfl
  | false => exact h2 rfl
theorem Hb.of_eq {P : α → Prop} (h : ∃ a, m = M.ret a ∧ P a) : Hb m P := by
  obtain ⟨a, e, p⟩ := h
  subst e
  exact Hb.ret p
theorem Hb.call {f : α → M β} {a : α} (e : m = M.ret a) (h : Hb (f a) Q) : Hb (M.bnd m f) Q := by rw [e]; exact h
theorem Hb.seq {m1 m2 : Ga → M Fl} {Γ : Ga} {I : Ga → Prop} {P : Fl → Prop} (h : Hb (m1 Γ) fun f => ∃ Γ', f = .nx Γ' ∧ I Γ') (k : ∀ Γ', I Γ' → Hb (m2 Γ') P) : Hb (seqM m1 m2 Γ) P :=
  h.bnd fun f ⟨Γ', e, i⟩ => by subst e; exact k Γ' i
theorem Hb.run {n : Nat} {m : Ga → M Fl} {ds : List D} {P : D → Prop} (h : Hb (m (initG n ds)) fun f => ∃ d, f = .rt d ∧ P d) : Hb (runD n m ds) P := h.bnd fun f ⟨d, e, p⟩ => by subst e; exact Hb.ret p
/-- a loop: the invariant by the number of turns done -/
theorem Hb.forI {st : D → Ga → Option Ga} {body : Ga → M Fl} (I : Nat → Ga → Prop) : ∀ (xs : List D) (i : Nat) (Γ : Ga), I i Γ → (∀ j x Γ, xs[j]? = some x → I (i + j) Γ → ∃ Γ1, st x Γ = some Γ1 ∧ Hb (body Γ1) fun f => ∃ Γ', (f = .nx Γ' ∨ f = .ct Γ') ∧ I (i + j + 1) Γ') →
    Hb (forL st body xs Γ) fun f => ∃ Γ', f = .nx Γ' ∧ I (i + xs.length) Γ'
  | [], i, Γ, h, _ => Hb.ret ⟨Γ, rfl, h⟩
  | x :: xs, i, Γ, h, k => by
    obtain ⟨Γ1, e1, hb⟩ := k 0 x Γ rfl h
    show Hb (M.bnd (opt (st x Γ)) fun Γ1 => M.bnd (body Γ1) (forK (forL st body xs))) _
    rw [e1, bnd_optS]
    refine Hb.bnd hb fun f ⟨Γ', e, i'⟩ => ?_
    have r := Hb.forI I xs (i + 1) Γ' i' fun j y Γ2 hy hi => by
      have := k (j + 1) y Γ2 (by simpa using hy) (by rw [show i + (j + 1) = i + 1 + j by omega]; exact hi)
      rw [show i + (j + 1) + 1 = i + 1 + j + 1 by omega] at this
      exact this
    have r : Hb (forL st body xs Γ') fun f => ∃ Γ', f = .nx Γ' ∧ I (i + (x :: xs).length) Γ' := r.mono fun f ⟨Γ2, e, h⟩ => ⟨Γ2, e, by rw [List.length_cons, show i + (xs.length + 1) = i + 1 + xs.length by omega]; exact h⟩
    rcases e with e | e <;> (subst e; exact r)
/-- a comprehension -/
theorem Hb.comp {st : D → Ga → Option Ga} {mt : Ga → M Bool} {me : Ga → M D} {Γ : Ga} (R : D → D → Prop) : ∀ xs : List D, (∀ x ∈ xs, ∃ Γ1, st x Γ = some Γ1 ∧ Hb (mt Γ1) (fun k => k = true) ∧ Hb (me Γ1) (R x)) → Hb (compL st mt me Γ xs) fun ys => ys.length = xs.length ∧ ∀ y ∈ ys, ∃ x ∈ xs, R x y
  | [], _ => Hb.ret ⟨rfl, fun y hy => by cases hy⟩
  | x :: xs, k => by
    obtain ⟨Γ1, e1, h1, h2⟩ := k x List.mem_cons_self
    show Hb (M.bnd (opt (st x Γ)) fun Γ1 => M.bnd (DL.calm (mt Γ1)) fun k => if k = true then M.bnd (DL.calm (me Γ1)) fun y => M.bnd (compL st mt me Γ xs) fun ys => M.ret (y :: ys) else compL st mt me Γ xs) _
    rw [e1, bnd_optS]
    refine Hb.bnd h1.calm fun k e => ?_
    subst e
    rw [if_pos rfl]
    refine Hb.bnd h2.calm fun y hy => ?_
    refine Hb.bnd (Hb.comp R xs fun z hz => k z (List.mem_cons_of_mem _ hz)) fun ys ⟨hl, hm⟩ => ?_
    refine Hb.ret ⟨by rw [List.length_cons, List.length_cons, hl], fun z hz => ?_⟩
    rcases List.mem_cons.mp hz with e | h
    · subst e
      exact ⟨x, List.mem_cons_self, hy⟩
    · obtain ⟨u, hu, r⟩ := hm z h
      exact ⟨u, List.mem_cons_of_mem _ hu, r⟩
end
end DL

set_option Elab.async false
set_option linter.all false
set_option maxRecDepth 100000
set_option maxHeartbeats 400000
namespace DL.WK09
open PySem PySem.Spec PyProof.Rows L2
/-! ### rules, rows -/
def dR (m b : Nat) (u : Bool) (r d : Nat) : D := .tup [.int m, .int b, .str (if u = true then "up" else "down"), .int r, .int d]
structure VR (m b r d : Nat) : Prop where
  m1 : 1 ≤ m
  m3 : m ≤ 3
  b1 : 1 ≤ b
  bm : b ≤ m
  r1 : 1 ≤ r
  r3 : r ≤ 3
  d3 : d ≤ 3
structure VL (l : List Nat) : Prop where
  len : l.length ≤ 40
  le : ∀ s ∈ l, s ≤ 3
theorem VL.take {l : List Nat} (h : VL l) (n : Nat) : VL (l.take n) := ⟨by rw [List.length_take]; exact Nat.le_trans (Nat.min_le_right _ _) h.len, fun s hs => h.le s (List.mem_of_mem_take hs)⟩
theorem e_is_whole (v lo hi : Int) : f_is_whole [.int v, .int lo, .int hi] = M.ret (.bl (decide (lo ≤ v) && decide (v ≤ hi))) := by
  by_cases c : lo ≤ v <;> simp [f_is_whole, runD, m_is_whole, initG, c]
theorem whole_ok {v lo hi : Int} (h1 : lo ≤ v) (h2 : v ≤ hi) : f_is_whole [.int v, .int lo, .int hi] = M.ret (.bl true) := by
  rw [e_is_whole, decide_eq_true h1, decide_eq_true h2] <;> rfl
theorem c_row {l : List Nat} (h : VL l) : c_fits_row_1 [.d (.str (rowS l)), .d (.int 40), .no] = M.ret ((sgnL (rowS l)).map fun _ => D.bl true) := by
  have hl := h.len
  unfold c_fits_row_1
  rw [compM_ap]
  simp only [rdv_0, bnd_ret, itemsK_s]
  rw [lenK_ap (by rw [rowS_sgn, List.length_map]; omega), bnd_ret]
  refine comp_map _ _ fun x hx => ⟨_, rfl, rfl, ?_⟩
  rw [rowS_sgn] at hx
  obtain ⟨s, hs, rfl⟩ := List.mem_map.mp hx
  have := h.le s hs
  have e : D.isin (.str ⟨#[48 + s]⟩) (.str "0123") = some (.bl true) := by
    rcases (by omega : s = 0 ∨ s = 1 ∨ s = 2 ∨ s = 3) with e | e | e | e <;> subst e <;> kernel_rfl
  simp [wipeG, e]
theorem e_fits_row {l : List Nat} (h : VL l) : f_fits_row [.str (rowS l), .int 40] = M.ret (.bl true) := by
  have hl := h.len
  have h2 : D.len [.str (rowS l)] = some (.int l.length) := by
    show (if (rowS l).length ≤ 100000 then some (D.int (rowS l).length) else none) = _
    rw [rowS_length, if_pos (by omega)]
  have e2 : D.all [.lst ((sgnL (rowS l)).map fun _ => D.bl true)] = some (.bl true) := by
    have : (sgnL (rowS l)).map (fun _ => D.bl true) = ((sgnL (rowS l)).map fun _ => true).map D.bl := by rw [List.map_map]; rfl
    rw [this]
    show (bls _).map (fun bs => D.bl (bs.all id)) = _
    rw [bls_map]
    simp
  have h3 : (l.length : Int) ≤ 40 := by omega
  have h4 := c_row h
  simp [f_fits_row, runD, m_fits_row, initG, h2, h3, h4, e2]
theorem e_need_start {g : Int} (h0 : 0 ≤ g) (h3 : g ≤ 3) : f_need_start [.int g] = M.ret .non := by
  simp [f_need_start, runD, m_need_start, m_need_start_1, initG, callK, whole_ok h0 h3]
theorem e_need_row {l : List Nat} (h : VL l) : f_need_row [.str (rowS l)] = M.ret .non := by
  simp [f_need_row, runD, m_need_row, m_need_row_1, initG, callK, e_fits_row h]
theorem e_first_state (g : Int) : f_first_state [.int g] = M.ret (.tup [.tup [], .int g]) := rfl
/-! ### a round -/
def meanU (u : Bool) (L : List Int) : Int := if u = true then -((-L.sum) / (L.length : Int)) else L.sum / (L.length : Int)
def laterU (b : Nat) (u : Bool) (r : Nat) (w : List Int) (g : Int) : Int := if g + r < meanU u ((sortI w).take b) then g + r else meanU u ((sortI w).take b)
def nx (b : Nat) (u : Bool) (r d : Nat) (w : List Int) (g s : Int) : Int :=
  if 0 < d then (if (d : Int) ≤ g - s then (if laterU b u r w g - 1 > 0 then laterU b u r w g - 1 else 0) else laterU b u r w g) else laterU b u r w g
def win (m : Nat) (w : List Int) (s : Int) : List Int := (w ++ [s]).drop ((w ++ [s]).length - m)
theorem win_len {m : Nat} (w : List Int) (s : Int) (h : 1 ≤ m) : 1 ≤ (win m w s).length ∧ (win m w s).length ≤ m := by
  unfold win
  rw [List.length_drop, List.length_append, List.length_cons, List.length_nil]
  omega
theorem best_len {m b : Nat} (w : List Int) (s : Int) (h : 1 ≤ m) (h3 : m ≤ 3) (hb : 1 ≤ b) : 1 ≤ ((sortI (win m w s)).take b).length ∧ ((sortI (win m w s)).take b).length ≤ 3 := by
  have := win_len (m := m) w s h
  rw [List.length_take, sortI_length]
  omega
@[simp] theorem ix_t0 (x : D) (ds : List D) : D.ix (.tup (x :: ds)) (.int 0) = some x := by
  show atI (x :: ds) (((0 : Nat) : Int)) = _
  exact atI_nat rfl
@[simp] theorem ix_t1 (x y : D) (ds : List D) : D.ix (.tup (x :: y :: ds)) (.int 1) = some y := by
  show atI (x :: y :: ds) (((1 : Nat) : Int)) = _
  exact atI_nat rfl
@[simp] theorem cut_t (ds : List D) (lo hi : Option Int) : D.cut (.tup ds) lo hi = some (.tup (cutL ds lo hi)) := rfl
@[simp] theorem cut_l (ds : List D) (lo hi : Option Int) : D.cut (.lst ds) lo hi = some (.lst (cutL ds lo hi)) := rfl
theorem add_t {a b : List D} (h : a.length + b.length ≤ 100000) : D.add (.tup a) (.tup b) = some (.tup (a ++ b)) := if_pos h
theorem add_l {a b : List D} (h : a.length + b.length ≤ 100000) : D.add (.lst a) (.lst b) = some (.lst (a ++ b)) := if_pos h
theorem add_s {a b : Str} (h : a.length + b.length ≤ 100000) : D.add (.str a) (.str b) = some (.str (a ++ b)) := if_pos h
theorem sorted_l (w : List Int) : D.sorted [.lst (w.map D.int)] = some (.lst ((sortI w).map D.int)) := by
  show (if sortable (w.map D.int) = true then some (D.lst (sortD (w.map D.int))) else none) = _
  rw [if_pos (sortable_ints w), sortD_ints]
theorem sorted_t (w : List Int) : D.sorted [.tup (w.map D.int)] = some (.lst ((sortI w).map D.int)) := by
  show (if sortable (w.map D.int) = true then some (D.lst (sortD (w.map D.int))) else none) = _
  rw [if_pos (sortable_ints w), sortD_ints]
theorem sum_l (w : List Int) : D.sum [.lst (w.map D.int)] = some (.int w.sum) := by
  show (intL (w.map D.int)).map (fun ns => D.int ns.sum) = _
  rw [ints_map]
  rfl
theorem isdown (u : Bool) : D.eq (.str (if u = true then "up" else "down")) (.str "down") = some (.bl (!u)) := by cases u <;> kernel_rfl
theorem isup (u : Bool) : D.eq (.str (if u = true then "up" else "down")) (.str "up") = some (.bl u) := by cases u <;> kernel_rfl
theorem min2_i (i j : Int) : D.min2 [.int i, .int j] = some (.int (if j < i then j else i)) := rfl
theorem max2_i (i j : Int) : D.max2 [.int i, .int j] = some (.int (if j > i then j else i)) := rfl
theorem e_moved {m b r d : Nat} {u : Bool} (h : VR m b r d) (w : List Int) (hw : w.length ≤ 3) (g s : Int) :
    f_moved [dR m b u r d, .tup [.tup (w.map D.int), .int g], .int s] = M.ret (.tup [.tup ((win m w s).map D.int), .int (nx b u r d (win m w s) g s)]) := by
  have hL := best_len (m := m) (b := b) w s h.m1 h.m3 h.b1
  have a1 : D.add (.tup (w.map D.int)) (.tup [.int s]) = some (.tup ((w ++ [s]).map D.int)) := by
    rw [add_t (by rw [List.length_map, List.length_cons, List.length_nil]; omega), List.map_append]
    rfl
  have c1 : cutL ((w ++ [s]).map D.int) (some (-(m : Int))) none = (win m w s).map D.int := by
    rw [cutL_map, cut_last _ _ h.m1]
    rfl
  have c2 : cutL ((sortI (win m w s)).map D.int) none (some (b : Int)) = ((sortI (win m w s)).take b).map D.int := by rw [cutL_map, cut_take]
  have q : ∀ z : Int, D.fdiv (.int z) (.int (((sortI (win m w s)).take b).length : Nat)) = some (.int (z / (((sortI (win m w s)).take b).length : Nat))) := fun z => fdivI (by omega) (by omega)
  have hgT : ∀ ms Γ, gT 5 ms (dR m b u r d) Γ = ms [.int m, .int b, .str (if u = true then "up" else "down"), .int r, .int d] Γ := fun ms Γ => gT_ap ms rfl
  have tk : ∀ x y : D, tupK [x, y] = M.ret (.tup [x, y]) := fun x y => tupK_ap (by simp)
  have t1 : ∀ x : D, tupK [x] = M.ret (.tup [x]) := fun x => tupK_ap (by simp)
  generalize hwn : win m w s = W at *
  generalize hLn : (sortI W).take b = L at *
  have e0 : laterU b u r W g = (if g + r < meanU u L then g + r else meanU u L) := by unfold laterU; rw [hLn]
  simp only [f_moved, runD, m_moved, initG, List.map_cons, List.map_nil, List.length_cons, List.length_nil, List.cons_append, List.nil_append, List.replicate]
  simp only [seqM_ap, asgM_ap, rdv_0, rdv_s, bnd_ret, hgT, gsCons_ap, gsNil_ap, gN_ap, Option.bind_some, bnd_optS, List.set, seqK_nx, parM_ap, bin_ap, ix_t0, ix_t1, consM_ret, t1, a1, un1_ap, negI, asI_int, cutM_ap, cut_t, c1, parK_ap, sorted_t, cut_l, c2, isdown, asB_bl, ifM_ret, sum_l, len_l, List.length_map, opt_ret]
  have fin : ∀ mn : Int, mn = meanU u L → M.bnd (M.bnd (M.bnd (M.ret (D.int mn)) fun x => M.bnd (opt (gN 11 x [.d (dR m b u r d), .d (.tup [.tup (w.map D.int), .int g]), .d (.int s), .d (.int m), .d (.int b), .d (.str (if u = true then "up" else "down")), .d (.int r), .d (.int d), .d (.tup (W.map D.int)), .d (.int g), .d (.lst (L.map D.int)), .no, .no])) fun Γ' => M.ret (.nx Γ'))
      (seqK (seqM (asgM (fun Γ => M.bnd ((fun Γ => consM ((fun Γ => rdv Γ 11) Γ) ((fun Γ => consM ((bin D.add (fun Γ => rdv Γ 9) (fun Γ => rdv Γ 6)) Γ) ((fun _ => M.ret []) Γ)) Γ)) Γ) fun xs => opt (D.min2 xs)) (gN 12)) (seqM m_moved_1 (retM (fun Γ => M.bnd ((fun Γ => consM ((fun Γ => rdv Γ 8) Γ) ((fun Γ => consM ((fun Γ => rdv Γ 12) Γ) ((fun _ => M.ret []) Γ)) Γ)) Γ) tupK)))))) outK
      = M.ret (.tup [.tup (W.map D.int), .int (nx b u r d W g s)]) := by
    intro mn em
    simp only [gN_ap, bnd_optS, bnd_ret, List.set, seqK_nx, min2_i, rdv_0, rdv_s, consM_ret, addI, opt_ret, seqM_ap, asgM_ap, bin_ap]
    rw [em, ← e0]
    by_cases cd : 0 < d
    · by_cases cs : (d : Int) ≤ g - s
      · by_cases cl : 1 < laterU b u r W g
        · simp [m_moved_1, cd, cs, cl, nx, max2_i, tk]
        · simp [m_moved_1, cd, cs, cl, nx, max2_i, tk]
      · simp [m_moved_1, cd, cs, nx, tk]
    · simp [m_moved_1, cd, nx, tk]
  cases u with
  | false =>
    have := fin (L.sum / (L.length : Int)) rfl
    simp only [Bool.not_false, if_true, q, bnd_optS, bnd_ret, opt_ret]
    exact this
  | true =>
    have := fin (-((-L.sum) / (L.length : Int))) rfl
    simp only [Bool.not_true, Bool.false_eq_true, if_false, q, bnd_optS, bnd_ret, opt_ret, negI]
    exact this
/-! ### row by row -/
def stp (m b : Nat) (u : Bool) (r d : Nat) (p : List Int × Int) (s : Nat) : List Int × Int := (win m p.1 s, nx b u r d (win m p.1 s) p.2 s)
def SS (m b : Nat) (u : Bool) (r d : Nat) (g0 : Int) (l : List Nat) : List Int × Int := l.foldl (stp m b u r d) ([], g0)
def givL (m b : Nat) (u : Bool) (r d : Nat) (g0 : Int) (l : List Nat) (n : Nat) : List Int := (List.range n).map fun i => (SS m b u r d g0 (l.take i)).2
def lefL (m b : Nat) (u : Bool) (r d : Nat) (g0 : Int) (l : List Nat) (n : Nat) : List Int := (List.range n).map fun i => ((l.getD i 0 : Nat) : Int) - (SS m b u r d g0 (l.take i)).2
section
variable {m b r d : Nat} {u : Bool} {g0 : Int} {l : List Nat}
theorem SS_take {i s : Nat} (h : l[i]? = some s) : SS m b u r d g0 (l.take (i + 1)) = stp m b u r d (SS m b u r d g0 (l.take i)) s := by
  unfold SS
  rw [List.take_add_one, h, List.foldl_append]
  rfl
theorem SS_len (h : VR m b r d) : ∀ i, (SS m b u r d g0 (l.take i)).1.length ≤ 3
  | 0 => by simp [SS]
  | i + 1 => by
    cases q : l[i]? with
    | none =>
      rw [List.take_of_length_le (by have := List.getElem?_eq_none_iff.mp q; omega)]
      have := SS_len h i
      rw [List.take_of_length_le (by have := List.getElem?_eq_none_iff.mp q; omega)] at this
      exact this
    | some s =>
      rw [SS_take q]
      exact Nat.le_trans (win_len (m := m) _ _ h.m1).2 h.m3
theorem SS_win (h : VR m b r d) : ∀ i, (SS m b u r d g0 (l.take i)).1 = ((l.take i).map fun s : Nat => (s : Int)).drop ((l.take i).length - m)
  | 0 => by simp [SS]
  | i + 1 => by
    cases q : l[i]? with
    | none =>
      have hl := List.getElem?_eq_none_iff.mp q
      have e : l.take (i + 1) = l.take i := by rw [List.take_of_length_le (by omega), List.take_of_length_le (by omega)]
      rw [e]
      exact SS_win h i
    | some s =>
      rw [SS_take q]
      show win m (SS m b u r d g0 (l.take i)).1 s = _
      rw [SS_win h i]
      unfold win
      have hs := last_slide ((l.take i).map fun s : Nat => (s : Int)) (s : Int) m h.m1
      rw [List.length_map] at hs
      rw [hs, List.take_add_one, q]
      simp
theorem givL_snoc (n : Nat) : givL m b u r d g0 l (n + 1) = givL m b u r d g0 l n ++ [(SS m b u r d g0 (l.take n)).2] := by
  unfold givL
  rw [List.range_succ, List.map_append]
  rfl
theorem lefL_snoc (n : Nat) : lefL m b u r d g0 l (n + 1) = lefL m b u r d g0 l n ++ [((l.getD n 0 : Nat) : Int) - (SS m b u r d g0 (l.take n)).2] := by
  unfold lefL
  rw [List.range_succ, List.map_append]
  rfl
theorem givL_len (n : Nat) : (givL m b u r d g0 l n).length = n := by simp [givL]
theorem lefL_len (n : Nat) : (lefL m b u r d g0 l n).length = n := by simp [lefL]
theorem sgn_at {j : Nat} {x : D} (h : VL l) (hx : (sgnL (rowS l))[j]? = some x) : ∃ s, l[j]? = some s ∧ s ≤ 3 ∧ x = .str ⟨#[48 + s]⟩ ∧ D.toInt [x] = some (.int s) ∧ l.getD j 0 = s := by
  rw [rowS_sgn, List.getElem?_map] at hx
  obtain ⟨s, h1, rfl⟩ := Option.map_eq_some_iff.mp hx
  have h3 := h.le s (List.mem_of_getElem? h1)
  exact ⟨s, h1, h3, rfl, toInt_digit h3, by simp [List.getD, h1]⟩
/-- the state behind the first i rounds -/
def stD (m b : Nat) (u : Bool) (r d : Nat) (g0 : Int) (l : List Nat) (i : Nat) : D := .tup [.tup ((SS m b u r d g0 (l.take i)).1.map D.int), .int (SS m b u r d g0 (l.take i)).2]
theorem moved_at (h : VR m b r d) {i s : Nat} (q : l[i]? = some s) : f_moved [dR m b u r d, stD m b u r d g0 l i, .int s] = M.ret (stD m b u r d g0 l (i + 1)) := by
  unfold stD
  rw [e_moved h _ (SS_len h i) _ _, SS_take q]
  rfl
theorem e_went (h : VR m b r d) (hl : VL l) : f_went [dR m b u r d, .tup [.tup [], .int g0], .str (rowS l)] = M.ret (.tup [stD m b u r d g0 l l.length, .lst ((lefL m b u r d g0 l l.length).map D.int)]) := by
  have hll := hl.len
  have t2 : ∀ x y : D, tupK [x, y] = M.ret (.tup [x, y]) := fun x y => tupK_ap (by simp)
  obtain ⟨Γ', e1, x, e2⟩ := for_ix (st := gN 4) (body := b_went_1) (fun i Γ => ∃ x, Γ = [.d (dR m b u r d), .d (stD m b u r d g0 l i), .d (.str (rowS l)), .own ((lefL m b u r d g0 l i).map D.int), x])
    (sgnL (rowS l)) 0 [.d (dR m b u r d), .d (.tup [.tup [], .int g0]), .d (.str (rowS l)), .own [], .no] ⟨.no, rfl⟩ (fun j x Γ hx hG => by
      obtain ⟨y, rfl⟩ := hG
      obtain ⟨s, q, h3, rfl, ti, hd⟩ := sgn_at hl hx
      have hj : j < l.length := (List.getElem?_eq_some_iff.mp q).1
      rw [Nat.zero_add]
      have mv := moved_at (u := u) (g0 := g0) h q
      have ix : D.ix (stD m b u r d g0 l j) (.int 1) = some (.int (SS m b u r d g0 (l.take j)).2) := ix_t1 _ _ _
      have sn : (lefL m b u r d g0 l j).map D.int ++ [.int ((s : Int) - (SS m b u r d g0 (l.take j)).2)] = (lefL m b u r d g0 l (j + 1)).map D.int := by
        rw [lefL_snoc, List.map_append, hd]
        rfl
      have ll : ((lefL m b u r d g0 l j).map D.int).length < 100000 := by rw [List.length_map, lefL_len]; omega
      refine ⟨_, _, rfl, ?_, ⟨.d (.str ⟨#[48 + s]⟩), rfl⟩⟩
      simp only [b_went_1, List.set, seqM_ap, asgM_ap, app_at (i := 3) (Γ := [_, _, _, .own _, _]) _ rfl, rdv_0, rdv_s, bnd_ret, consM_ret, ti, bnd_optS, opt_ret, callK_ap _ (show ([_, _, _] : List D).length = 3 from rfl), mv, gN_ap, seqK_nx, bin_ap, ix, subI, appK_ap ll, sn])
  have hlen : (sgnL (rowS l)).length = l.length := by rw [rowS_sgn, List.length_map]
  rw [Nat.zero_add, hlen] at e2
  subst e2
  simp only [f_went, runD, m_went, initG, List.map_cons, List.map_nil, List.length_cons, List.length_nil, List.cons_append, List.nil_append, List.replicate]
  simp only [seqM_ap, ownM_ap, rdv_0, rdv_s, bnd_ret, consM_ret, lenK_ap (show ([] : List D).length ≤ 100000 from Nat.zero_le _), seqK_nx, List.set, m_went_1, forM_ap, itemsK_s, e1, retM_ap, outK_rt, frz_at (i := 3) (Γ := [_, _, _, .own _, _]) rfl, t2]
end
end DL.WK09

set_option Elab.async false
set_option linter.all false
set_option maxRecDepth 100000
set_option maxHeartbeats 400000
namespace DL.WK09
open PySem PySem.Spec PyProof.Rows L2
/-! ### the law's own next -/
theorem sum_nn : ∀ {w : List Int}, (∀ x ∈ w, 0 ≤ x) → 0 ≤ w.sum
  | [], _ => by simp
  | a :: w, h => by
    have h1 := h a List.mem_cons_self
    have h2 := sum_nn fun x hx => h x (List.mem_cons_of_mem _ hx)
    rw [List.sum_cons]
    omega
theorem mean_nn {u : Bool} {L : List Int} (h : ∀ x ∈ L, 0 ≤ x) (h1 : 1 ≤ L.length) (h3 : L.length ≤ 3) : 0 ≤ meanU u L := by
  have := sum_nn h
  unfold meanU
  rcases (by omega : L.length = 1 ∨ L.length = 2 ∨ L.length = 3) with e | e | e <;> rw [e] <;> cases u <;> simp <;> omega
theorem mean_up {u : Bool} {L : List Int} (h1 : 1 ≤ L.length) (h3 : L.length ≤ 3) : meanU u L = if u = true then (if L.sum / (L.length : Int) * (L.length : Int) < L.sum then L.sum / (L.length : Int) + 1 else L.sum / (L.length : Int)) else L.sum / (L.length : Int) := by
  unfold meanU
  rcases (by omega : L.length = 1 ∨ L.length = 2 ∨ L.length = 3) with e | e | e <;> rw [e] <;> cases u <;> simp <;> split <;> omega
theorem later_nn {b r : Nat} {u : Bool} {w : List Int} {g : Int} (hw : ∀ x ∈ w, 0 ≤ x) (h1 : 1 ≤ ((sortI w).take b).length) (h3 : ((sortI w).take b).length ≤ 3) (hg : 0 ≤ g) : 0 ≤ laterU b u r w g := by
  have := mean_nn (u := u) (L := (sortI w).take b) (fun x hx => hw x (sortI_mem.mp (List.mem_of_mem_take hx))) h1 h3
  unfold laterU
  split <;> omega
theorem nx_nn {b r d : Nat} {u : Bool} {w : List Int} {g s : Int} (h : 0 ≤ laterU b u r w g) : 0 ≤ nx b u r d w g s := by
  unfold nx
  split
  · split
    · split <;> omega
    · exact h
  · exact h
theorem nx_law {b r d : Nat} {u : Bool} {w : List Int} {g s : Int} (h : 0 ≤ laterU b u r w g) : nx b u r d w g s = if (!decide (d = 0)) = true ∧ (s + d ≤ g ∧ 0 < laterU b u r w g) then laterU b u r w g - 1 else laterU b u r w g := by
  unfold nx
  generalize laterU b u r w g = L at *
  by_cases c : 0 < d
  · have c' : ¬ d = 0 := by omega
    by_cases c2 : (d : Int) ≤ g - s
    · have c2' : s + (d : Int) ≤ g := by omega
      by_cases c3 : 0 < L
      · simp [c, c', c2, c2', c3]
        omega
      · have : L = 0 := by omega
        simp [c, c', c2, c2', this]
    · have c2' : ¬ s + (d : Int) ≤ g := by omega
      simp [c2, c2']
  · have c' : d = 0 := by omega
    simp [c']
theorem wind_nn (p : List Nat) (n : Nat) : ∀ x ∈ (p.map fun s : Nat => (s : Int)).drop n, 0 ≤ x := fun x hx => by
  obtain ⟨s, _, rfl⟩ := List.mem_map.mp (List.mem_of_mem_drop hx)
  omega
theorem cut_s {z : Str} (h : z.length ≤ 100000) (lo hi : Option Int) : D.cut (.str z) lo hi = some (.str (cutS z lo hi)) := if_pos h
theorem c_next {m b r d : Nat} {u : Bool} (h : VR m b r d) {p : List Nat} (hp : VL p) (x1 x2 x3 x4 x5 x6 x7 x8 x9 : S) :
    c__law_next_1 [x1, .d (.str (rowS p)), x2, .d (.int m), x3, x4, x5, x6, x7, x8, x9, .no] = M.ret (((p.map fun s : Nat => (s : Int)).drop (p.length - m)).map D.int) := by
  have hl := hp.len
  unfold c__law_next_1
  rw [compM_ap]
  have ec : cutL p (some (-(m : Int))) none = p.drop (p.length - m) := cut_last _ _ h.m1
  simp only [rdv_0, rdv_s, bnd_ret, un1_ap, negI, opt_ret, asI_int, cutM_ap, cut_s (z := rowS p) (by rw [rowS_length]; omega), itemsK_s, cutS_row, ec]
  rw [lenK_ap (by rw [rowS_sgn, List.length_map, List.length_drop]; omega), bnd_ret]
  have ef : (sgnL (rowS (p.drop (p.length - m)))).map (fun x => match D.toInt [x] with | some z => z | none => D.non) = ((p.map fun s : Nat => (s : Int)).drop (p.length - m)).map D.int := by
    rw [rowS_sgn, List.map_map, ← List.map_drop, List.map_map]
    refine List.map_congr_left fun s hs => ?_
    have h3 := hp.le s (List.mem_of_mem_drop hs)
    show (match D.toInt [.str ⟨#[48 + s]⟩] with | some z => z | none => D.non) = D.int (s : Int)
    rw [toInt_digit h3]
  rw [← ef]
  refine comp_map _ _ fun x hx => ⟨_, rfl, rfl, ?_⟩
  rw [rowS_sgn] at hx
  obtain ⟨s, hs, rfl⟩ := List.mem_map.mp hx
  have h3 := hp.le s (List.mem_of_mem_drop hs)
  simp only [wipeG, List.set, rdv_0, rdv_s, bnd_ret, consM_ret, toInt_digit h3, opt_ret]
theorem e_law_next {m b r d : Nat} {u : Bool} (h : VR m b r d) {q : List Nat} {s : Nat} (hp : VL (q ++ [s])) {g : Int} (hg : 0 ≤ g) :
    f__law_next [dR m b u r d, .str (rowS (q ++ [s])), .int g] = M.ret (.int (nx b u r d (((q ++ [s]).map fun s : Nat => (s : Int)).drop ((q ++ [s]).length - m)) g s)) := by
  have hl := hp.len
  have hs3 : s ≤ 3 := hp.le s (by simp)
  have hc := c_next (u := u) h hp
  have hn := wind_nn (q ++ [s]) ((q ++ [s]).length - m)
  have hwl : 1 ≤ (((q ++ [s]).map fun s : Nat => (s : Int)).drop ((q ++ [s]).length - m)).length := by
    rw [List.length_drop, List.length_map, List.length_append, List.length_cons, List.length_nil]
    have := h.m1
    omega
  have ex : D.ix (.str (rowS (q ++ [s]))) (.int (-1)) = some (.str ⟨#[48 + s]⟩) := by
    show (if (rowS (q ++ [s])).length ≤ 100000 then (atI (rowS (q ++ [s])).cps.toList (-1)).map (fun c => D.str ⟨#[c]⟩) else none) = _
    rw [if_pos (by rw [rowS_length]; omega)]
    have : (rowS (q ++ [s])).cps.toList = q.map (fun s => 48 + s) ++ [48 + s] := by simp [rowS]
    rw [this, atI_last]
    rfl
  generalize hW : ((q ++ [s]).map fun s : Nat => (s : Int)).drop ((q ++ [s]).length - m) = W at *
  have hL : 1 ≤ ((sortI W).take b).length ∧ ((sortI W).take b).length ≤ 3 := by
    rw [List.length_take, sortI_length]
    have := h.b1
    have := h.bm
    have := h.m3
    omega
  have ln := later_nn (u := u) (r := r) hn hL.1 hL.2 hg
  have em := mean_up (u := u) hL.1 hL.2
  have c2 : cutL ((sortI W).map D.int) none (some (b : Int)) = ((sortI W).take b).map D.int := by rw [cutL_map, cut_take]
  have el : laterU b u r W g = (if meanU u ((sortI W).take b) ≤ g + r then meanU u ((sortI W).take b) else g + r) := by
    unfold laterU
    split <;> split <;> omega
  have en := nx_law (d := d) (s := s) ln
  generalize hLL : (sortI W).take b = L at *
  have q1 : ∀ z : Int, D.fdiv (.int z) (.int (L.length : Nat)) = some (.int (z / (L.length : Nat))) := fun z => fdivI (by omega) (by omega)
  have q2 : ∀ z : Int, D.mul (.int z) (.int (L.length : Nat)) = some (.int (z * (L.length : Nat))) := fun z => mulI (.inr (by omega))
  have hgT : ∀ ms Γ, gT 5 ms (dR m b u r d) Γ = ms [.int m, .int b, .str (if u = true then "up" else "down"), .int r, .int d] Γ := fun ms Γ => gT_ap ms rfl
  have ti := toInt_digit hs3
  have fin : ∀ mn : Int, mn = meanU u L → M.bnd (M.bnd (M.ret (Fl.nx [.d (dR m b u r d), .d (.str (rowS (q ++ [s]))), .d (.int g), .d (.int m), .d (.int b), .d (.str (if u = true then "up" else "down")), .d (.int r), .d (.int d), .d (.lst (L.map D.int)), .d (.int mn), .no, .no])) (seqK (seqM (asgM (fun Γ => ifM ((fun Γ => M.bnd (bin D.le (fun Γ => rdv Γ 9) (bin D.add (fun Γ => rdv Γ 2) (fun Γ => rdv Γ 6)) Γ) asB) Γ) ((fun Γ => rdv Γ 9) Γ) ((bin D.add (fun Γ => rdv Γ 2) (fun Γ => rdv Γ 6)) Γ)) (gN 10))
      (seqM m__law_next_2 (retM (fun Γ => rdv Γ 10)))))) outK = M.ret (.int (nx b u r d W g s)) := by
    intro mn e
    subst e
    have er : (if meanU u L ≤ g + (r : Int) then M.ret (D.int (meanU u L)) else M.ret (D.int (g + r))) = M.ret (D.int (laterU b u r W g)) := by
      rw [el]
      split <;> rfl
    simp only [bnd_ret, seqK_nx, seqM_ap, asgM_ap, bin_ap, rdv_0, rdv_s, addI, bnd_optS, leI, opt_ret, asB_bl, ifM_ret, decide_eq_true_eq, er, gN_ap, List.set]
    rw [en]
    by_cases cd : d = 0
    · simp [m__law_next_2, neI, cd]
    · by_cases c1 : (s : Int) + d ≤ g
      · by_cases c3 : 0 < laterU b u r W g
        · simp [m__law_next_2, neI, cd, c1, c3, ex, ti]
        · simp [m__law_next_2, neI, cd, c1, c3, ex, ti]
      · simp [m__law_next_2, neI, cd, c1, ex, ti]
  simp only [f__law_next, runD, m__law_next, initG, List.map_cons, List.map_nil, List.length_cons, List.length_nil, List.cons_append, List.nil_append, List.replicate]
  simp only [seqM_ap, asgM_ap, rdv_0, rdv_s, bnd_ret, hgT, gsCons_ap, gsNil_ap, gN_ap, Option.bind_some, bnd_optS, List.set, seqK_nx, lstOf_ap, hc, consM_ret, sorted_l, asI_int, cutM_ap, cut_l, c2, opt_ret, bin_ap, sum_l, len_l, List.length_map, q1]
  cases u with
  | false =>
    have e1 : m__law_next_1 [.d (dR m b false r d), .d (.str (rowS (q ++ [s]))), .d (.int g), .d (.int m), .d (.int b), .d (.str (if false = true then "up" else "down")), .d (.int r), .d (.int d), .d (.lst (L.map D.int)), .d (.int (L.sum / (L.length : Int))), .no, .no]
        = M.ret (.nx [.d (dR m b false r d), .d (.str (rowS (q ++ [s]))), .d (.int g), .d (.int m), .d (.int b), .d (.str (if false = true then "up" else "down")), .d (.int r), .d (.int d), .d (.lst (L.map D.int)), .d (.int (L.sum / (L.length : Int))), .no, .no]) := by
      unfold m__law_next_1
      simp only [bin_ap, rdv_0, rdv_s, bnd_ret, isup, opt_ret, asB_bl, andM_ret]
      rfl
    rw [e1]
    exact fin _ rfl
  | true =>
    have e1 : m__law_next_1 [.d (dR m b true r d), .d (.str (rowS (q ++ [s]))), .d (.int g), .d (.int m), .d (.int b), .d (.str (if true = true then "up" else "down")), .d (.int r), .d (.int d), .d (.lst (L.map D.int)), .d (.int (L.sum / (L.length : Int))), .no, .no]
        = M.ret (.nx [.d (dR m b true r d), .d (.str (rowS (q ++ [s]))), .d (.int g), .d (.int m), .d (.int b), .d (.str (if true = true then "up" else "down")), .d (.int r), .d (.int d), .d (.lst (L.map D.int)), .d (.int (meanU true L)), .no, .no]) := by
      unfold m__law_next_1
      rw [em, if_pos rfl]
      have hu : D.eq (.str "up") (.str "up") = some (.bl true) := isup true
      simp only [hu, if_true, bin_ap, rdv_0, rdv_s, bnd_ret, isup, opt_ret, asB_bl, andM_ret, if_pos, len_l, sum_l, List.length_map, consM_ret, q2, bnd_optS, ltI, ifM_ret, nxM_ap, asgM_ap, addI, gN_ap, List.set, decide_eq_true_eq]
      split <;> rfl
    rw [e1]
    exact fin _ rfl
/-! ### the law's own givens -/
theorem SS_nn {m b r d : Nat} {u : Bool} {g0 : Int} {l : List Nat} (h : VR m b r d) (hg : 0 ≤ g0) : ∀ i, 0 ≤ (SS m b u r d g0 (l.take i)).2
  | 0 => by simpa [SS] using hg
  | i + 1 => by
    cases q : l[i]? with
    | none =>
      have hl := List.getElem?_eq_none_iff.mp q
      have e : l.take (i + 1) = l.take i := by rw [List.take_of_length_le (by omega), List.take_of_length_le (by omega)]
      rw [e]
      exact SS_nn h hg i
    | some s =>
      have ih := SS_nn (u := u) (l := l) h hg i
      have hw := SS_win (u := u) (g0 := g0) (l := l) h (i + 1)
      rw [SS_take q] at hw ⊢
      have hw : win m (SS m b u r d g0 (l.take i)).1 s = _ := hw
      have hL := best_len (m := m) (b := b) (SS m b u r d g0 (l.take i)).1 s h.m1 h.m3 h.b1
      show 0 ≤ nx b u r d (win m (SS m b u r d g0 (l.take i)).1 s) (SS m b u r d g0 (l.take i)).2 s
      refine nx_nn (later_nn ?_ hL.1 hL.2 ih)
      rw [hw]
      exact wind_nn _ _
theorem next_at {m b r d : Nat} {u : Bool} {g0 : Int} {l : List Nat} (h : VR m b r d) (hg : 0 ≤ g0) (hl : VL l) {i s : Nat} (q : l[i]? = some s) :
    f__law_next [dR m b u r d, .str (rowS (l.take (i + 1))), .int (SS m b u r d g0 (l.take i)).2] = M.ret (.int (SS m b u r d g0 (l.take (i + 1))).2) := by
  have e : l.take (i + 1) = l.take i ++ [s] := by rw [List.take_add_one, q]; rfl
  have hp := hl.take (i + 1)
  have hw := SS_win (u := u) (g0 := g0) (l := l) h (i + 1)
  rw [SS_take q] at hw
  have hw : win m (SS m b u r d g0 (l.take i)).1 s = _ := hw
  rw [e] at hp hw
  have hn := e_law_next (u := u) h hp (SS_nn (u := u) (l := l) h hg i)
  rw [← hw] at hn
  rw [SS_take q]
  have : f__law_next [dR m b u r d, .str (rowS (l.take (i + 1))), .int (SS m b u r d g0 (l.take i)).2] = f__law_next [dR m b u r d, .str (rowS (l.take i ++ [s])), .int (SS m b u r d g0 (l.take i)).2] := by rw [e]
  rw [this, hn]
  rfl
theorem rng1_ap {n : Nat} (h : n < 100000) : rng1K [.int n] = M.ret (rngL 0 n) := by
  show (if (n : Int) < 100000 ∧ -100000 < (n : Int) then M.ret (rngL 0 (n : Int).toNat) else stuck) = _
  rw [if_pos ⟨by omega, by omega⟩]
  rfl
theorem rngL_at {n j : Nat} {x : D} (h : (rngL 0 n)[j]? = some x) : j < n ∧ x = .int j := by
  unfold rngL at h
  rw [List.getElem?_map] at h
  obtain ⟨i, h1, rfl⟩ := Option.map_eq_some_iff.mp h
  obtain ⟨h2, h3⟩ := List.getElem?_eq_some_iff.mp h1
  rw [List.length_range] at h2
  rw [List.getElem_range] at h3
  subst h3
  exact ⟨h2, by simp⟩
theorem rngL_len (lo : Int) (n : Nat) : (rngL lo n).length = n := by simp [rngL]
theorem e_law_givens {m b r d : Nat} {u : Bool} {g0 : Int} {l : List Nat} (h : VR m b r d) (hg : 0 ≤ g0) (hl : VL l) :
    f__law_givens [dR m b u r d, .int g0, .str (rowS l)] = M.ret (.lst ((givL m b u r d g0 l (l.length + 1)).map D.int)) := by
  have hll := hl.len
  have h2 : D.len [.str (rowS l)] = some (.int l.length) := by
    show (if (rowS l).length ≤ 100000 then some (D.int (rowS l).length) else none) = _
    rw [rowS_length, if_pos (by omega)]
  obtain ⟨Γ', e1, x, e2⟩ := for_ix (st := gN 4) (body := b__law_givens_1) (fun i Γ => ∃ x, Γ = [.d (dR m b u r d), .d (.int g0), .d (.str (rowS l)), .own ((givL m b u r d g0 l (i + 1)).map D.int), x])
    (rngL 0 l.length) 0 [.d (dR m b u r d), .d (.int g0), .d (.str (rowS l)), .own [.int g0], .no] ⟨.no, rfl⟩ (fun j x Γ hx hG => by
      obtain ⟨y, rfl⟩ := hG
      obtain ⟨hj, rfl⟩ := rngL_at hx
      rw [Nat.zero_add]
      have q : l[j]? = some l[j] := List.getElem?_eq_getElem hj
      have mv := next_at (u := u) (g0 := g0) h hg hl q
      have cs : cutS (rowS l) none (some ((j : Int) + 1)) = rowS (l.take (j + 1)) := by
        rw [cutS_row]
        congr 1
        exact cut_take l (j + 1)
      have lx : D.ix (.lst ((givL m b u r d g0 l (j + 1)).map D.int)) (.int (-1)) = some (.int (SS m b u r d g0 (l.take j)).2) := by
        rw [givL_snoc j, List.map_append]
        exact atI_last _ _
      have sn : (givL m b u r d g0 l (j + 1)).map D.int ++ [.int (SS m b u r d g0 (l.take (j + 1))).2] = (givL m b u r d g0 l (j + 1 + 1)).map D.int := by
        rw [givL_snoc (j + 1), List.map_append]
        rfl
      have ll : ((givL m b u r d g0 l (j + 1)).map D.int).length < 100000 := by rw [List.length_map, givL_len]; omega
      refine ⟨_, _, rfl, ?_, ⟨.d (.int j), rfl⟩⟩
      simp only [b__law_givens_1, List.set, app_at (i := 3) (Γ := [_, _, _, .own _, _]) _ rfl, rdv_0, rdv_s, rdo_1, rdo_s, bnd_ret, consM_ret, bin_ap, addI, un1_ap, negI, bnd_optS, opt_ret, asI_int, cutM_ap, cut_s (z := rowS l) (by rw [rowS_length]; omega), cs, lx, callK_ap _ (show ([_, _, _] : List D).length = 3 from rfl), mv, appK_ap ll, sn])
  rw [Nat.zero_add, rngL_len] at e2
  subst e2
  simp only [f__law_givens, runD, m__law_givens, initG, List.map_cons, List.map_nil, List.length_cons, List.length_nil, List.cons_append, List.nil_append, List.replicate]
  simp only [seqM_ap, ownM_ap, rdv_0, rdv_s, bnd_ret, consM_ret, lenK_ap (show ([_] : List D).length ≤ 100000 from by simp), seqK_nx, List.set, m__law_givens_1, forM_ap, h2, bnd_optS, opt_ret, rng1_ap (n := l.length) (by omega), e1, retM_ap, outK_rt, frz_at (i := 3) (Γ := [_, _, _, .own _, _]) rfl]
end DL.WK09

set_option Elab.async false
set_option linter.all false
set_option maxRecDepth 100000
set_option maxHeartbeats 400000
namespace DL.WK09
open PySem PySem.Spec PyProof.Rows L2
/-! ### the draws -/
theorem ix_c {ns : List Int} {j : Nat} (h : j < ns.length) : D.ix (.scr ns) (.int j) = some (.int ns[j]) := by
  show (atI ns (j : Int)).map D.int = _
  rw [atI_nat (List.getElem?_eq_getElem h)]
  rfl
theorem e_cell (ns : List Int) (k : Nat) : ∃ c : Int, f__law_cell [.scr ns, .int k] = M.ret (.int c) := by
  by_cases h1 : k < ns.length
  · refine ⟨ns[k], ?_⟩
    have e : (k : Int) < ns.length := by omega
    simp [f__law_cell, runD, m__law_cell, m__law_cell_1, initG, e, ix_c h1]
  · by_cases h2 : ns.length = 0
    · refine ⟨7919 * k + 101, ?_⟩
      have e : ¬ (k : Int) < ns.length := by omega
      have mu : D.mul (.int 7919) (.int k) = some (.int (7919 * k)) := mulI (.inl (by omega))
      have e0 : (ns.length : Int) = 0 := by omega
      simp only [f__law_cell, runD, m__law_cell, initG, List.map_cons, List.map_nil, List.length_cons, List.length_nil, List.cons_append, List.nil_append, List.replicate]
      simp only [seqM_ap, m__law_cell_1, m__law_cell_2, bin_ap, rdv_0, rdv_s, bnd_ret, consM_ret, len_c, bnd_optS, opt_ret, ltI, asB_bl, decide_eq_false e, ifM_ret, Bool.false_eq_true, if_false, nxM_ap, seqK_nx, seqK_rt, eqI, decide_eq_true e0, if_true, retM_ap, mu, addI, outK_rt]
    · have h3 : 0 < ns.length := by omega
      have hm : k % ns.length < ns.length := Nat.mod_lt _ h3
      refine ⟨ns[k % ns.length] % 1000003 + 7919 * k, ?_⟩
      have e : ¬ (k : Int) < ns.length := by omega
      have e0 : ¬ (ns.length : Int) = 0 := by omega
      have mu : D.mul (.int 7919) (.int k) = some (.int (7919 * k)) := mulI (.inl (by omega))
      have mo : D.mod (.int k) (.int ns.length) = some (.int ((k % ns.length : Nat) : Int)) := modI (by omega)
      have mo2 : D.mod (.int ns[k % ns.length]) (.int 1000003) = some (.int (ns[k % ns.length] % 1000003)) := modI (by omega)
      simp only [f__law_cell, runD, m__law_cell, initG, List.map_cons, List.map_nil, List.length_cons, List.length_nil, List.cons_append, List.nil_append, List.replicate]
      simp only [seqM_ap, m__law_cell_1, m__law_cell_2, bin_ap, rdv_0, rdv_s, bnd_ret, consM_ret, len_c, bnd_optS, opt_ret, ltI, asB_bl, decide_eq_false e, ifM_ret, Bool.false_eq_true, if_false, nxM_ap, seqK_nx, eqI, decide_eq_false e0, retM_ap, mo, ix_c hm, mo2, mu, addI, outK_rt]
def prD : D := .tup [.int 2147483647, .int 2147483629, .int 2147483587, .int 2147483579, .int 2147483563, .int 2147483549, .int 2147483543, .int 2147483497]
theorem ix_pr (z : Int) : ∃ p : Int, 0 < p ∧ p < 2147483648 ∧ D.ix prD (.int (z % 8)) = some (.int p) := by
  have h : z % 8 = 0 ∨ z % 8 = 1 ∨ z % 8 = 2 ∨ z % 8 = 3 ∨ z % 8 = 4 ∨ z % 8 = 5 ∨ z % 8 = 6 ∨ z % 8 = 7 := by omega
  rcases h with e | e | e | e | e | e | e | e <;> rw [e] <;> exact ⟨_, by decide, by decide, rfl⟩
/-- one turn of the draws -/
theorem draw_turn {k j : Nat} (hj : j < 150) (scr many : S) (cell rest : Int) (row : List Int) (a9 : S) (hr : row.length < 99999) :
    ∃ (rest' x y : Int), b__law_draws_1 [scr, .d (.int k), many, .d (.int 27720), .d prD, .d (.int cell), .d (.int rest), .own (row.map D.int), .d (.int j), a9] =
      M.ret (.nx [scr, .d (.int k), many, .d (.int 27720), .d prD, .d (.int cell), .d (.int rest'), .own ((row ++ [x]).map D.int), .d (.int j), .d (.int y)]) := by
  obtain ⟨p1, a1, b1, i1⟩ := ix_pr j
  obtain ⟨p2, a2, b2, i2⟩ := ix_pr (3 * j + k)
  obtain ⟨p3, a3, b3, i3⟩ := ix_pr (j + 5)
  have m8 : ∀ z : Int, D.mod (.int z) (.int 8) = some (.int (z % 8)) := fun z => modI (by omega)
  have mp1 : ∀ z : Int, D.mod (.int z) (.int p1) = some (.int (z % p1)) := fun z => modI a1
  have mp2 : ∀ z : Int, D.mod (.int z) (.int p2) = some (.int (z % p2)) := fun z => modI a2
  have mp3 : ∀ z : Int, D.mod (.int z) (.int p3) = some (.int (z % p3)) := fun z => modI a3
  have mb : ∀ z : Int, D.mod (.int z) (.int 27720) = some (.int (z % 27720)) := fun z => modI (by omega)
  have fb : ∀ z : Int, D.fdiv (.int z) (.int 27720) = some (.int (z / 27720)) := fun z => fdivI (by omega) (by omega)
  have u1 : D.mul (.int 2) (.int j) = some (.int (2 * j)) := mulI (.inl (by omega))
  have u2 : D.mul (.int (2 * (j : Int))) (.int j) = some (.int (2 * j * j)) := mulI (.inr (by omega))
  have u3 : ∀ z : Int, D.mul (.int (cell % p1)) (.int z) = some (.int (cell % p1 * z)) := fun z => mulI (.inl (by
    have := Int.emod_nonneg cell (b := p1) (by omega)
    have := Int.emod_lt_of_pos cell a1
    omega))
  have u4 : D.mul (.int 7919) (.int ((j : Int) + 1)) = some (.int (7919 * ((j : Int) + 1))) := mulI (.inl (by omega))
  have u5 : D.mul (.int (7919 * ((j : Int) + 1))) (.int ((j : Int) + 1)) = some (.int (7919 * ((j : Int) + 1) * ((j : Int) + 1))) := mulI (.inr (by omega))
  have u6 : D.mul (.int 104729) (.int k) = some (.int (104729 * k)) := mulI (.inl (by omega))
  have u7 : D.mul (.int 3) (.int j) = some (.int (3 * j)) := mulI (.inl (by omega))
  have u8 : ∀ z : Int, D.mul (.int (z % p2)) (.int (z % p2)) = some (.int (z % p2 * (z % p2))) := fun z => mulI (.inl (by
    have := Int.emod_nonneg z (b := p2) (by omega)
    have := Int.emod_lt_of_pos z a2
    omega))
  have u9 : ∀ w z : Int, D.mul (.int w) (.int (z % p2)) = some (.int (w * (z % p2))) := fun w z => mulI (.inr (by
    have := Int.emod_nonneg z (b := p2) (by omega)
    have := Int.emod_lt_of_pos z a2
    omega))
  have ll : (row.map D.int).length < 100000 := by rw [List.length_map]; omega
  have sn : ∀ x : Int, row.map D.int ++ [.int x] = (row ++ [x]).map D.int := fun x => by rw [List.map_append]; rfl
  by_cases c : 0 < rest
  · refine ⟨rest / 27720, rest % 27720, rest, ?_⟩
    simp -implicitDefEqProofs only [b__law_draws_1, m__law_draws_2, seqM_ap, asgM_ap, bin_ap, rdv_0, rdv_s, bnd_ret, bnd_optS, m8, i1, mp1, u1, u2, addI, u3, u4, u5, u6, opt_ret, gN_ap, List.set, seqK_nx, u7, i2, mp2, u8, u9, i3, mp3, gtI, decide_eq_true c, asB_bl, ifM_ret, if_true, app_at (i := 7) (Γ := [_, _, _, _, _, _, _, .own _, _, _]) _ rfl, mb, appK_ap ll, fb, sn]
  · refine ⟨rest / 27720, ?_⟩
    simp -implicitDefEqProofs only [b__law_draws_1, m__law_draws_2, seqM_ap, asgM_ap, bin_ap, rdv_0, rdv_s, bnd_ret, bnd_optS, m8, i1, mp1, u1, u2, addI, u3, u4, u5, u6, opt_ret, gN_ap, List.set, seqK_nx, u7, i2, mp2, u8, u9, i3, mp3, gtI, decide_eq_false c, asB_bl, ifM_ret, Bool.false_eq_true, if_false, nxM_ap, app_at (i := 7) (Γ := [_, _, _, _, _, _, _, .own _, _, _]) _ rfl, mb, appK_ap ll, fb, sn]
    exact ⟨_, _, rfl⟩
theorem e_draws (ns : List Int) (k : Nat) : ∃ row : List Int, f__law_draws [.scr ns, .int k, .int 150, .int 27720] = M.ret (row.map D.int) := by
  obtain ⟨c, hc⟩ := e_cell ns k
  have hp : ∀ rest : Int, ∃ Γ', forL (gN 8) b__law_draws_1 (rngL 0 150) [.d (.scr ns), .d (.int k), .d (.int 150), .d (.int 27720), .d prD, .d (.int c), .d (.int rest), .own [], .no, .no] = M.ret (.nx Γ') ∧
      ∃ (rest : Int) (row : List Int) (a8 a9 : S), row.length = 0 + (rngL 0 150).length ∧ Γ' = [.d (.scr ns), .d (.int k), .d (.int 150), .d (.int 27720), .d prD, .d (.int c), .d (.int rest), .own (row.map D.int), a8, a9] := fun rest =>
    for_ix (st := gN 8) (body := b__law_draws_1) (fun i Γ => ∃ (rest : Int) (row : List Int) (a8 a9 : S), row.length = i ∧ Γ = [.d (.scr ns), .d (.int k), .d (.int 150), .d (.int 27720), .d prD, .d (.int c), .d (.int rest), .own (row.map D.int), a8, a9])
      (rngL 0 150) 0 _ ⟨rest, [], .no, .no, rfl, rfl⟩ fun j x Γ hx hG => by
        obtain ⟨rest, row, a8, a9, hl, rfl⟩ := hG
        obtain ⟨hj, rfl⟩ := rngL_at hx
        obtain ⟨rest', x, y, e⟩ := draw_turn (k := k) hj (.d (.scr ns)) (.d (.int 150)) c rest row a9 (by omega)
        exact ⟨_, _, rfl, e, rest', row ++ [x], .d (.int j), .d (.int y), by rw [List.length_append, hl]; rfl, rfl⟩
  have r150 : rng1K [.int 150] = M.ret (rngL 0 150) := rng1_ap (n := 150) (by decide)
  have pw : D.pow (.int 10) (.int 18) = some (.int (10 ^ 18)) := rfl
  have tk : tupK [.int 2147483647, .int 2147483629, .int 2147483587, .int 2147483579, .int 2147483563, .int 2147483549, .int 2147483543, .int 2147483497] = M.ret prD := tupK_ap (by simp)
  by_cases cc : (10 ^ 18 : Int) ≤ c
  · obtain ⟨Γ', e1, r', row, a8, a9, hl, rfl⟩ := hp c
    refine ⟨row, ?_⟩
    simp only [f__law_draws, runN, m__law_draws, initG, List.map_cons, List.map_nil, List.length_cons, List.length_nil, List.cons_append, List.nil_append, List.replicate]
    simp -implicitDefEqProofs only [rsM_ap, m__law_draws_1, m__law_draws_3, asgM_ap, bin_ap, rdv_0, rdv_s, bnd_ret, consM_ret, tk, gN_ap, List.set, bnd_optS, rsK_nx, callK_ap _ (show ([_, _] : List D).length = 2 from rfl), hc, pw, geI, opt_ret, decide_eq_true cc, asB_bl, ifM_ret, if_true, ownM_ap, lenK_ap (show ([] : List D).length ≤ 100000 from Nat.zero_le _), forM_ap, r150, e1, roM_1, roM_s, calm_ret]
  · obtain ⟨Γ', e1, r', row, a8, a9, hl, rfl⟩ := hp 0
    refine ⟨row, ?_⟩
    simp only [f__law_draws, runN, m__law_draws, initG, List.map_cons, List.map_nil, List.length_cons, List.length_nil, List.cons_append, List.nil_append, List.replicate]
    simp -implicitDefEqProofs only [rsM_ap, m__law_draws_1, m__law_draws_3, asgM_ap, bin_ap, rdv_0, rdv_s, bnd_ret, consM_ret, tk, gN_ap, List.set, bnd_optS, rsK_nx, callK_ap _ (show ([_, _] : List D).length = 2 from rfl), hc, pw, geI, opt_ret, decide_eq_false cc, asB_bl, ifM_ret, Bool.false_eq_true, if_false, nxM_ap, ownM_ap, lenK_ap (show ([] : List D).length ≤ 100000 from Nat.zero_le _), forM_ap, r150, e1, roM_1, roM_s, calm_ret]
theorem e_bag (ns : List Int) (k : Nat) : ∃ row : List Int, f__law_bag [.scr ns, .int k] = M.ret (row.map D.int) := by
  obtain ⟨row, h⟩ := e_draws ns k
  refine ⟨row, ?_⟩
  have e : callN 4 f__law_draws [.scr ns, .int k, .int 150, .int 27720] = f__law_draws [.scr ns, .int k, .int 150, .int 27720] := if_pos rfl
  simp only [f__law_bag, runN, m__law_bag, initG, List.map_cons, List.map_nil, List.length_cons, List.length_nil, List.cons_append, List.nil_append, List.replicate, rdv_0, rdv_s, bnd_ret, consM_ret, e, h, calm_ret]
theorem h_take {m : Nat} (hm : 0 < m) : Hb (f__law_take [.bag, .int m]) fun x => ∃ t : Nat, x = .int t ∧ t < m := fun bs => by
  have key : ∀ z : Int, ∃ t : Nat, D.mod (.int z) (.int m) = some (.int t) ∧ t < m := fun z => by
    refine ⟨(z % m).toNat, ?_, ?_⟩
    · have := Int.emod_nonneg z (b := (m : Int)) (by omega)
      rw [modI (by omega), Int.toNat_of_nonneg this]
    · have := Int.emod_nonneg z (b := (m : Int)) (by omega)
      have := Int.emod_lt_of_pos z (b := (m : Int)) (by omega)
      omega
  obtain ⟨c, b, r, ps⟩ := bs
  cases b with
  | nil =>
    obtain ⟨t, e, ht⟩ := key 0
    refine ⟨.int t, [], ?_, t, rfl, ht⟩
    show M.bnd (M.bnd (opt (D.mod (.int 0) (.int m))) fun x => M.ret (Fl.rt x)) outK ⟨c, [], r, ps⟩ = _
    rw [e]
    rfl
  | cons z b =>
    obtain ⟨t, e, ht⟩ := key z
    refine ⟨.int t, b, ?_, t, rfl, ht⟩
    show M.bnd (M.bnd (opt (D.mod (.int z) (.int m))) fun x => M.ret (Fl.rt x)) outK ⟨c, b, r, ps⟩ = _
    rw [e]
    rfl
theorem h_choice {ds : List D} (h : 0 < ds.length) : Hb (f__law_choice [.bag, .lst ds]) fun x => x ∈ ds := by
  refine Hb.run ?_
  simp only [m__law_choice, initG, List.map_cons, List.map_nil, List.length_cons, List.length_nil, List.cons_append, List.nil_append, List.replicate, retM_ap, bin_ap, rdv_0, rdv_s, bnd_ret, consM_ret, len_l, opt_ret, callK_ap _ (show ([_, _] : List D).length = 2 from rfl)]
  rw [bnd_assoc]
  refine Hb.bnd (h_take h) fun x ⟨t, e, ht⟩ => ?_
  subst e
  have : D.ix (.lst ds) (.int t) = some ds[t] := atI_nat (List.getElem?_eq_getElem ht)
  rw [this]
  exact Hb.ret ⟨_, rfl, List.getElem_mem ht⟩
/-! ### rules and rows that are drawn -/
def RuleD (x : D) : Prop := ∃ m b u r d, x = dR m b u r d ∧ VR m b r d
theorem e_known : f__law_known [] = M.ret (.lst [dR 1 1 false 3 0, dR 3 2 false 1 0, dR 2 1 true 3 2, dR 3 3 true 2 1, dR 1 1 false 1 0, dR 3 1 false 3 0]) := by kernel_rfl
theorem known_ok : ∀ x ∈ [dR 1 1 false 3 0, dR 3 2 false 1 0, dR 2 1 true 3 2, dR 3 3 true 2 1, dR 1 1 false 1 0, dR 3 1 false 3 0], RuleD x := by
  intro x hx
  simp only [List.mem_cons, List.not_mem_nil, or_false] at hx
  rcases hx with e | e | e | e | e | e <;> subst e <;> exact ⟨_, _, _, _, _, rfl, ⟨by decide, by decide, by decide, by decide, by decide, by decide, by decide⟩⟩
theorem h_rule : Hb (f__law_rule [.bag]) RuleD := by
  refine Hb.run ?_
  simp only [m__law_rule, m__law_rule_1, initG, List.map_cons, List.map_nil, List.length_cons, List.length_nil, List.cons_append, List.nil_append, List.replicate, seqM_ap, bin_ap, rdv_0, rdv_s, bnd_ret, consM_ret, callK_ap _ (show ([_, _] : List D).length = 2 from rfl)]
  unfold ifM
  simp only [bnd_assoc]
  refine Hb.bnd (h_take (m := 6) (by decide)) fun x ⟨t, e, ht⟩ => ?_
  subst e
  simp only [bnd_ret, eqI, bnd_optS, opt_ret, asB_bl]
  cases q : decide ((t : Int) = 0) with
  | true =>
    simp only [if_true, retM_ap, rdv_0, rdv_s, bnd_ret, consM_ret, callK_ap _ (show ([] : List D).length = 0 from rfl), callK_ap _ (show ([_, _] : List D).length = 2 from rfl), e_known, bnd_assoc, seqK_rt]
    refine Hb.bnd (h_choice (by decide)) fun x hx => ?_
    exact Hb.ret ⟨x, rfl, known_ok x hx⟩
  | false =>
    simp only [Bool.false_eq_true, if_false, nxM_ap, bnd_ret, seqK_nx, seqM_ap, asgM_ap, bin_ap, rdv_0, rdv_s, consM_ret, callK_ap _ (show ([_, _] : List D).length = 2 from rfl), bnd_assoc]
    refine Hb.bnd (h_take (m := 3) (by decide)) fun x ⟨m, e, hm⟩ => ?_
    subst e
    simp only [bnd_optS, addI, gN_ap, List.set, bnd_ret, seqK_nx, seqM_ap, parM_ap, bin_ap, rdv_0, rdv_s, consM_ret, callK_ap _ (show ([_, _] : List D).length = 2 from rfl), consM, bnd_assoc]
    have em : (1 : Int) + (m : Nat) = ((1 + m : Nat) : Int) := by omega
    rw [em]
    refine Hb.bnd (h_take (m := 1 + m) (by omega)) fun x ⟨b, e, hb⟩ => ?_
    subst e
    have lk : lstK [.str "down", .str "up"] = M.ret (.lst [.str "down", .str "up"]) := lstK_ap (by decide)
    simp only [bnd_optS, addI, opt_ret, bnd_ret, lk]
    refine Hb.bnd (h_choice (ds := [.str "down", .str "up"]) (by decide)) fun w hw => ?_
    have lk2 : lstK [.int 0, .int 0, .int 1, .int 2, .int 3] = M.ret (.lst [.int 0, .int 0, .int 1, .int 2, .int 3]) := lstK_ap (by decide)
    simp only [bnd_ret, parK_ap, List.set, seqK_nx, retM_ap, rdv_0, rdv_s, bnd_assoc, bin_ap, consM_ret, callK_ap _ (show ([_, _] : List D).length = 2 from rfl), lk2]
    refine Hb.bnd (h_take (m := 3) (by decide)) fun x ⟨r, e, hr⟩ => ?_
    subst e
    simp only [bnd_optS, addI, opt_ret, bnd_ret]
    refine Hb.bnd (h_choice (ds := [.int 0, .int 0, .int 1, .int 2, .int 3]) (by decide)) fun x hx => ?_
    have hd : ∃ d : Nat, x = .int d ∧ d ≤ 3 := by
      simp only [List.mem_cons, List.not_mem_nil, or_false] at hx
      rcases hx with e | e | e | e | e
      · exact ⟨0, e, by decide⟩
      · exact ⟨0, e, by decide⟩
      · exact ⟨1, e, by decide⟩
      · exact ⟨2, e, by decide⟩
      · exact ⟨3, e, by decide⟩
    obtain ⟨d, e, hd⟩ := hd
    subst e
    have hu : ∃ u : Bool, w = .str (if u = true then "up" else "down") := by
      simp only [List.mem_cons, List.not_mem_nil, or_false] at hw
      rcases hw with e | e
      · exact ⟨false, e⟩
      · exact ⟨true, e⟩
    obtain ⟨u, e⟩ := hu
    subst e
    have eb : (1 : Int) + (b : Nat) = ((1 + b : Nat) : Int) := by omega
    have er : (1 : Int) + (r : Nat) = ((1 + r : Nat) : Int) := by omega
    have t5 : ∀ a b c d e : D, tupK [a, b, c, d, e] = M.ret (.tup [a, b, c, d, e]) := fun a b c d e => tupK_ap (by simp)
    simp only [bnd_ret, t5]
    refine Hb.ret ⟨_, rfl, 1 + m, 1 + b, u, 1 + r, d, ?_, ⟨by omega, by omega, by omega, by omega, by omega, by omega, by omega⟩⟩
    rw [eb, er]
    rfl
def RowD (n : Nat) (x : D) : Prop := ∃ l : List Nat, x = .str (rowS l) ∧ l.length ≤ n ∧ ∀ s ∈ l, s ≤ 3
theorem sign_ok {x : D} (hx : x ∈ [D.str "0", D.str "1", D.str "2", D.str "3"]) : ∃ s : Nat, x = .str (rowS [s]) ∧ s ≤ 3 := by
  simp only [List.mem_cons, List.not_mem_nil, or_false] at hx
  rcases hx with e | e | e | e
  · exact ⟨0, by rw [e]; kernel_rfl, by decide⟩
  · exact ⟨1, by rw [e]; kernel_rfl, by decide⟩
  · exact ⟨2, by rw [e]; kernel_rfl, by decide⟩
  · exact ⟨3, by rw [e]; kernel_rfl, by decide⟩
theorem ne_ints (w : List Int) : D.ne (.tup (w.map D.int)) (.tup (w.map D.int)) = some (.bl false) := by
  have h : okE 20 (.tup (w.map D.int)) = true := by
    simp only [okE]
    exact okEs_ints 19 w
  show (if okE 20 (.tup (w.map D.int)) = true ∧ okE 20 (.tup (w.map D.int)) = true then some (D.bl (!PyData.eqv (py (.tup (w.map D.int))) (py (.tup (w.map D.int))))) else none) = _
  rw [if_pos ⟨h, h⟩]
  simp only [py, PyData.eqv, eqv_ints]
  rfl
theorem mem_rng {n : Nat} {x : D} (h : x ∈ rngL 0 n) : ∃ j : Nat, j < n ∧ x = .int j := by
  obtain ⟨j, hj⟩ := List.getElem?_of_mem h
  exact ⟨j, rngL_at hj⟩
theorem VL_of (l : List Nat) (h : (decide (l.length ≤ 40) && l.all fun s => decide (s ≤ 3)) = true) : VL l := by
  simp only [Bool.and_eq_true, decide_eq_true_eq, List.all_eq_true] at h
  exact ⟨h.1, h.2⟩
theorem eq_ints (w : List Int) : D.eq (.tup (w.map D.int)) (.tup (w.map D.int)) = some (.bl true) := by
  have h : okE 20 (.tup (w.map D.int)) = true := by
    simp only [okE]
    exact okEs_ints 19 w
  show (if okE 20 (.tup (w.map D.int)) = true ∧ okE 20 (.tup (w.map D.int)) = true then some (D.bl (PyData.eqv (py (.tup (w.map D.int))) (py (.tup (w.map D.int))))) else none) = _
  rw [if_pos ⟨h, h⟩]
  simp only [py, PyData.eqv, eqv_ints]
theorem h_row : Hb (f__law_row [.bag, .int 12]) (RowD 12) := by
  refine Hb.run ?_
  simp only [m__law_row, m__law_row_1, initG, List.map_cons, List.map_nil, List.length_cons, List.length_nil, List.cons_append, List.nil_append, List.replicate, seqM_ap, asgM_ap, bnd_ret, gN_ap, List.set, bnd_optS, seqK_nx, forM_ap, bin_ap, rdv_0, rdv_s, addI, opt_ret, consM_ret, consM, callK_ap _ (show ([_, _] : List D).length = 2 from rfl), bnd_assoc]
  refine Hb.bnd (h_take (m := 13) (by decide)) fun x ⟨t, e, ht⟩ => ?_
  subst e
  simp only [bnd_ret, rng1_ap (n := t) (by omega)]
  refine Hb.bnd (Hb.forI (st := gN 3) (body := b__law_row_1) (fun i Γ => ∃ (l : List Nat) (y : S), l.length = i ∧ (∀ s ∈ l, s ≤ 3) ∧ Γ = [.d .bag, .d (.int 12), .d (.str (rowS l)), y]) (rngL 0 t) 0 _ ⟨[], .no, rfl, fun s hs => by simp at hs, rfl⟩ fun j x Γ hx hG => ?_) fun f ⟨Γ', e, l, y, hl, h3, eΓ⟩ => ?_
  · obtain ⟨l, y, hl, h3, rfl⟩ := hG
    obtain ⟨hj, rfl⟩ := rngL_at hx
    refine ⟨_, rfl, ?_⟩
    have lk : lstK [.str "0", .str "1", .str "2", .str "3"] = M.ret (.lst [.str "0", .str "1", .str "2", .str "3"]) := lstK_ap (by decide)
    simp only [b__law_row_1, List.set, asgM_ap, bin_ap, rdv_0, rdv_s, bnd_ret, consM_ret, lk, callK_ap _ (show ([_, _] : List D).length = 2 from rfl), bnd_assoc]
    refine Hb.bnd (h_choice (ds := [.str "0", .str "1", .str "2", .str "3"]) (by decide)) fun x hx => ?_
    obtain ⟨s, rfl, hs⟩ := sign_ok hx
    rw [add_s (by rw [rowS_length, rowS_length, hl, List.length_cons, List.length_nil]; omega), rowS_append]
    refine Hb.ret ⟨_, .inl rfl, l ++ [s], .d (.int j), by rw [List.length_append, hl]; rfl, fun z hz => ?_, rfl⟩
    rcases List.mem_append.mp hz with h | h
    · exact h3 z h
    · rw [List.mem_singleton.mp h]
      exact hs
  · subst e
    subst eΓ
    rw [rngL_len] at hl
    exact Hb.ret ⟨_, rfl, l, rfl, by omega, h3⟩
end DL.WK09

set_option Elab.async false
set_option linter.all false
set_option maxRecDepth 100000
set_option maxHeartbeats 400000
namespace DL.WK09
open PySem PySem.Spec PyProof.Rows L2
theorem sum_le3 : ∀ {w : List Int}, (∀ x ∈ w, x ≤ 3) → w.sum ≤ 3 * (w.length : Int)
  | [], _ => by simp
  | a :: w, h => by
    have h1 := h a List.mem_cons_self
    have h2 := sum_le3 fun x hx => h x (List.mem_cons_of_mem _ hx)
    rw [List.sum_cons, List.length_cons]
    omega
theorem mean_le3 {u : Bool} {L : List Int} (h : ∀ x ∈ L, x ≤ 3) (h1 : 1 ≤ L.length) (h3 : L.length ≤ 3) : meanU u L ≤ 3 := by
  have := sum_le3 h
  unfold meanU
  rcases (by omega : L.length = 1 ∨ L.length = 2 ∨ L.length = 3) with e | e | e <;> rw [e] at this ⊢ <;> cases u <;> simp <;> omega
theorem later_le3 {b r : Nat} {u : Bool} {w : List Int} {g : Int} (hw : ∀ x ∈ w, x ≤ 3) (h1 : 1 ≤ ((sortI w).take b).length) (h3 : ((sortI w).take b).length ≤ 3) : laterU b u r w g ≤ 3 := by
  have := mean_le3 (u := u) (L := (sortI w).take b) (fun x hx => hw x (sortI_mem.mp (List.mem_of_mem_take hx))) h1 h3
  unfold laterU
  split <;> omega
theorem nx_le3 {b r d : Nat} {u : Bool} {w : List Int} {g s : Int} (h : laterU b u r w g ≤ 3) : nx b u r d w g s ≤ 3 := by
  unfold nx
  split
  · split
    · split <;> omega
    · exact h
  · exact h
theorem wind_le3 {p : List Nat} (hp : ∀ s ∈ p, s ≤ 3) (n : Nat) : ∀ x ∈ (p.map fun s : Nat => (s : Int)).drop n, x ≤ 3 := fun x hx => by
  obtain ⟨s, hs, rfl⟩ := List.mem_map.mp (List.mem_of_mem_drop hx)
  have := hp s hs
  omega
theorem SS_le3 {m b r d : Nat} {u : Bool} {g0 : Int} {l : List Nat} (h : VR m b r d) (hg : g0 ≤ 3) (hl : VL l) : ∀ i, (SS m b u r d g0 (l.take i)).2 ≤ 3
  | 0 => by simpa [SS] using hg
  | i + 1 => by
    cases q : l[i]? with
    | none =>
      have hl' := List.getElem?_eq_none_iff.mp q
      have e : l.take (i + 1) = l.take i := by rw [List.take_of_length_le (by omega), List.take_of_length_le (by omega)]
      rw [e]
      exact SS_le3 h hg hl i
    | some s =>
      have hw := SS_win (u := u) (g0 := g0) (l := l) h (i + 1)
      rw [SS_take q] at hw ⊢
      have hw : win m (SS m b u r d g0 (l.take i)).1 s = _ := hw
      have hL := best_len (m := m) (b := b) (SS m b u r d g0 (l.take i)).1 s h.m1 h.m3 h.b1
      show nx b u r d (win m (SS m b u r d g0 (l.take i)).1 s) (SS m b u r d g0 (l.take i)).2 s ≤ 3
      refine nx_le3 (later_le3 ?_ hL.1 hL.2)
      rw [hw]
      exact wind_le3 (fun s hs => hl.le s (List.mem_of_mem_take hs)) _
section
variable {a b c d e f g : Int}
end
section
variable {a b c d e f g : Int} {m' b' r' d' : Nat} {u : Bool} {g0 : Int} {l : List Nat}
end
end DL.WK09

set_option Elab.async false
set_option linter.all false
set_option maxRecDepth 100000
set_option maxHeartbeats 400000
namespace DL.WK09
open PySem PySem.Spec PyProof.Rows L2
/-! ### refusals -/
theorem errL_ok : ∀ p ∈ errL, okE 20 (.str p.2) = true := by decide +kernel
theorem e_refL {mm : D → M D} {c l : Str} (hl : Lb c = some l) : ∀ os : List D, (∀ o ∈ os, mm o = raise c) → refL Lb mm (.str l) os = M.ret []
  | [], _ => rfl
  | o :: os, h => by
    have lok : okE 20 (.str l) = true := errL_ok _ (Lb_mem hl)
    have ih := e_refL hl os fun z hz => h z (List.mem_cons_of_mem _ hz)
    have e : errD Lb (mm o) = M.ret (.str l) := by
      rw [h o List.mem_cons_self]
      funext b
      show (match Lb c with | some l => some (Res.ok (D.str l), b) | none => none) = _
      rw [hl]
      rfl
    show M.bnd (calm (M.bnd (M.bnd (errD Lb (mm o)) fun y => opt (D.ne y (.str l))) asB)) (fun k => if k = true then M.bnd (refL Lb mm (.str l) os) fun ys => M.ret (o :: ys) else refL Lb mm (.str l) os) = _
    rw [e, bnd_ret, ne_self lok, opt_ret, bnd_ret, asB_bl, calm_ret, bnd_ret, if_neg Bool.false_ne_true, ih]
theorem e_refM {i : Nat} {m : Ga → M D} {ms : Ga → M (List D)} {Γ : Ga} {c l : Str} {os : List D} (hm : ms Γ = M.ret [.lst os, .str l]) (hl : Lb c = some l) (ho : os.length ≤ 100000) (h : ∀ o ∈ os, m (Γ.set i (.d o)) = raise c) : refM Lb i m ms Γ = M.ret (.bl true) := by
  unfold refM
  rw [hm, bnd_ret]
  show M.bnd (M.ret os) (fun xs => M.bnd (lenK xs) fun xs => M.bnd (refL Lb _ (.str l) xs) fun ys => opt (D.eq (.lst ys) (.lst []))) = _
  rw [bnd_ret, lenK_ap ho, bnd_ret, e_refL hl os h, bnd_ret, eq_self (x := .lst []) (by rfl), opt_ret]
/-! the bad ones -/
def badS : List D := [.non, .int (-1), .int 4, .bl true, .str "1", .tup [.int 1]]
theorem bad_starts : f__law_bad_starts [] = M.ret (.lst badS) := by kernel_rfl
theorem need_start_no : ∀ o ∈ badS, f_need_start [o] = raise "InvalidStart" := by
  intro o ho
  unfold badS at ho
  simp only [List.mem_cons, List.not_mem_nil, or_false] at ho
  rcases ho with e | e | e | e | e | e <;> subst e <;> kernel_rfl
def zeros : Str := ⟨(List.replicate 41 48).toArray⟩
def badW : List D := [.non, .int 1, .str "4", .str "0a", .str " ", .tup [.str "0"], .lst [.str "0"], .str zeros, .str "-1", .str "0\n"]
theorem bad_rows : f__law_bad_rows [] = M.ret (.lst badW) := by kernel_rfl
theorem bad_rows_no : ∀ o ∈ badW, f_fits_row [o, .int 40] = M.ret (.bl false) := by
  intro o ho
  unfold badW at ho
  simp only [List.mem_cons, List.not_mem_nil, or_false] at ho
  rcases ho with e | e | e | e | e | e | e | e | e | e <;> subst e <;> kernel_rfl
theorem need_row_no {o : D} (h : f_fits_row [o, .int 40] = M.ret (.bl false)) : f_need_row [o] = raise "InvalidRow" := by
  simp [f_need_row, runD, m_need_row, m_need_row_1, initG, callK, h]
end DL.WK09

set_option Elab.async false
set_option linter.all false
set_option maxRecDepth 100000
set_option maxHeartbeats 400000
namespace DL.WK09
open PySem PySem.Spec PyProof.Rows L2
/-! ### short names -/
theorem consM_b (a : M D) (b : M (List D)) : consM a b = M.bnd a fun x => M.bnd b fun xs => M.ret (x :: xs) := by
  rfl
theorem call_0 {f : List D → M D} : callK 0 f [] = f [] := rfl
theorem call_1 {f : List D → M D} {x : D} : callK 1 f [x] = f [x] := rfl
theorem call_2 {f : List D → M D} {x y : D} : callK 2 f [x, y] = f [x, y] := rfl
theorem call_3 {f : List D → M D} {x y z : D} : callK 3 f [x, y, z] = f [x, y, z] := rfl
theorem ifM_b {α : Type} (c : M Bool) (a b : M α) : ifM c a b = M.bnd c fun k => if k = true then a else b := rfl
theorem notM_b (a : M Bool) : notM a = M.bnd a fun c => M.ret (!c) := rfl
theorem atI_end {α : Type} (l : List α) (x : α) : atI (l ++ [x]) (-1) = some x := by
  unfold atI
  have e : ixN (l ++ [x]).length (-1) = some l.length := by
    unfold ixN
    rw [if_neg (by decide), List.length_append, List.length_singleton, if_pos (by omega)]
    congr 1
    omega
  rw [e]
  simp
theorem ix_end {xs : List D} {x : D} : D.ix (.lst (xs ++ [x])) (.int (-1)) = some x := atI_end xs x
theorem comp_gen {α : Type} {st : D → Ga → Option Ga} {mt : Ga → M Bool} {me : Ga → M D} {Γ : Ga} (f : α → D) (p : α → Bool) (F : α → D) : ∀ as : List α, (∀ a ∈ as, ∃ Γ1, st (f a) Γ = some Γ1 ∧ mt Γ1 = M.ret (p a) ∧ (p a = true → me Γ1 = M.ret (F a))) → compL st mt me Γ (as.map f) = M.ret ((as.filter p).map F)
  | [], _ => rfl
  | a :: as, k => by
    obtain ⟨Γ1, e1, h1, h2⟩ := k a List.mem_cons_self
    have ih := comp_gen f p F as fun z hz => k z (List.mem_cons_of_mem _ hz)
    show (M.bnd (opt (st (f a) Γ)) fun Γ1 => M.bnd (DL.calm (mt Γ1)) fun k => if k = true then M.bnd (DL.calm (me Γ1)) fun y => M.bnd (compL st mt me Γ (as.map f)) fun ys => M.ret (y :: ys) else compL st mt me Γ (as.map f)) = _
    rw [e1, bnd_optS, h1, calm_ret, bnd_ret]
    cases q : p a with
    | true =>
      rw [if_pos rfl, h2 q, calm_ret, bnd_ret, ih, List.filter_cons_of_pos q]
      rfl
    | false => rw [if_neg Bool.false_ne_true, ih, List.filter_cons_of_neg (by rw [q]; exact Bool.false_ne_true)]
theorem comp_each {α : Type} {st : D → Ga → Option Ga} {mt : Ga → M Bool} {me : Ga → M D} {Γ : Ga} (f : α → D) (F : α → D) (as : List α) (h : ∀ a ∈ as, ∃ Γ1, st (f a) Γ = some Γ1 ∧ mt Γ1 = M.ret true ∧ me Γ1 = M.ret (F a)) : compL st mt me Γ (as.map f) = M.ret (as.map F) := by
  have e := comp_gen (Γ := Γ) (st := st) (mt := mt) (me := me) f (fun _ => true) F as fun a ha => let ⟨Γ1, e1, e2, e3⟩ := h a ha; ⟨Γ1, e1, e2, fun _ => e3⟩
  rw [List.filter_eq_self.mpr fun _ _ => rfl] at e
  exact e
theorem all_bl (bs : List Bool) : D.all [.lst (bs.map D.bl)] = some (.bl (bs.all id)) := by
  show (bls _).map (fun bs => D.bl (bs.all id)) = _
  rw [bls_map]
  rfl
/-! ### all rules -/
abbrev R5 := Nat × Nat × Bool × Nat × Nat
def dQ (x : R5) : D := dR x.1 x.2.1 x.2.2.1 x.2.2.2.1 x.2.2.2.2
def allT : List R5 := [(1, 1), (2, 1), (2, 2), (3, 1), (3, 2), (3, 3)].flatMap fun p => [false, true].flatMap fun u => [1, 2, 3].flatMap fun r => [0, 1, 2, 3].map fun d => (p.1, p.2, u, r, d)
theorem e_all_rules : f_all_rules [] = M.ret (.lst (allT.map dQ)) := by kernel_rfl
theorem e_every : f__law_every_rule [] = M.ret (.lst (allT.map dQ)) := by kernel_rfl
abbrev VQ (x : R5) : Prop := VR x.1 x.2.1 x.2.2.2.1 x.2.2.2.2
theorem allT_ok : ∀ x ∈ allT, VQ x := by
  have h : (allT.all fun x => decide (1 ≤ x.1) && decide (x.1 ≤ 3) && decide (1 ≤ x.2.1) && decide (x.2.1 ≤ x.1) && decide (1 ≤ x.2.2.2.1) && decide (x.2.2.2.1 ≤ 3) && decide (x.2.2.2.2 ≤ 3)) = true := by decide +kernel
  intro x hx
  have := List.all_eq_true.mp h x hx
  simp only [Bool.and_eq_true, decide_eq_true_eq] at this
  obtain ⟨⟨⟨⟨⟨⟨h1, h2⟩, h3⟩, h4⟩, h5⟩, h6⟩, h7⟩ := this
  exact ⟨h1, h2, h3, h4, h5, h6, h7⟩
theorem allT_len : allT.length = 144 := by decide +kernel
/-! ### cards -/
def cdD (c : List Nat × Int) : D := .tup [.str (rowS c.1), .int c.2]
structure VC (cs : List (List Nat × Int)) : Prop where
  len : cs.length ≤ 4
  ok : ∀ c ∈ cs, VL c.1 ∧ 0 ≤ c.2 ∧ c.2 ≤ 3
abbrev csD (cs : List (List Nat × Int)) : D := .tup (cs.map cdD)
theorem e_is_card {c : List Nat × Int} (hl : VL c.1) (h0 : 0 ≤ c.2) (h3 : c.2 ≤ 3) : f_is_card [cdD c] = M.ret (.bl true) := by
  have h1 : D.isi [cdD c, .obj (.ty "tuple")] = some (.bl true) := rfl
  have h2 : D.len [cdD c] = some (.int 2) := rfl
  have i0 : D.ix (cdD c) (.int 0) = some (.str (rowS c.1)) := rfl
  have i1 : D.ix (cdD c) (.int 1) = some (.int c.2) := rfl
  simp [f_is_card, runD, m_is_card, m_is_card_1, initG, h1, h2, neI, callK, i0, i1, e_fits_row hl, whole_ok h0 h3]
theorem e_need_cards {cs : List (List Nat × Int)} (h : VC cs) : f_need_cards [csD cs] = M.ret .non := by
  have h1 : D.isi [csD cs, .obj (.ty "tuple")] = some (.bl true) := rfl
  have hl : (cs.map cdD).length = cs.length := List.length_map _
  have h2 : D.len [csD cs] = some (.int cs.length) := by
    show some (D.int (cs.map cdD).length) = _
    rw [hl]
  have h4 : decide ((4 : Int) < (cs.length : Int)) = false := decide_eq_false (by have := h.len; omega)
  have ec : c_need_cards_1 [.d (csD cs), .no] = M.ret (cs.map fun _ => D.bl true) := by
    unfold c_need_cards_1
    rw [compM_ap]
    simp only [rdv_0, bnd_ret, itemsK_t]
    rw [lenK_ap (by rw [hl]; have := h.len; omega), bnd_ret]
    refine comp_each cdD _ cs fun c hc => ⟨_, rfl, rfl, ?_⟩
    obtain ⟨k1, k2, k3⟩ := h.ok c hc
    simp only [wipeG, List.set, consM_b, bnd_assoc, rdv_0, rdv_s, bnd_ret, call_1, e_is_card k1 k2 k3]
  have ea : D.all [.lst (cs.map fun _ => D.bl true)] = some (.bl true) := by
    have e := all_bl (cs.map fun _ => true)
    rw [List.map_map] at e
    have : (cs.map fun _ => true).all id = true := by simp
    rw [this] at e
    exact e
  simp only [f_need_cards, runD, m_need_cards, m_need_cards_1, initG, List.map_cons, List.map_nil, List.length_cons, List.length_nil, List.cons_append, List.nil_append, List.replicate]
  simp only [ifM_b, orM, notM_b, consM_b, bnd_assoc, rdv_0, rdv_s, bnd_ret, bin_ap, h1, opt_ret, bnd_optS, asB_bl, Bool.not_true, Bool.false_eq_true, if_false, h2, gtI, h4, lstOf_ap, ec, ea, nxM_ap, outK_nx]
/-! ### what goes with cards -/
section
variable {m b r d : Nat} {u : Bool} {g0 : Int} {l : List Nat}
theorem e_given_behind (h : VR m b r d) (hl : VL l) : f_given_behind [dR m b u r d, .int g0, .str (rowS l)] = M.ret (.int (SS m b u r d g0 (l.take l.length)).2) := by
  simp only [f_given_behind, runD, m_given_behind, initG, List.map_cons, List.map_nil, List.length_cons, List.length_nil, List.cons_append, List.nil_append, List.replicate, retM_ap, bin_ap, consM_b, bnd_assoc, rdv_0, rdv_s, bnd_ret, call_1, call_3, e_first_state, e_went h hl]
  rfl
end
def gv (s : Int) (l : List Nat) (x : R5) : Int := (SS x.1 x.2.1 x.2.2.1 x.2.2.2.1 x.2.2.2.2 s (l.take l.length)).2
theorem gv_in {s : Int} {l : List Nat} {x : R5} (h : VQ x) (hl : VL l) (h0 : 0 ≤ s) (h3 : s ≤ 3) : 0 ≤ gv s l x ∧ gv s l x ≤ 3 := ⟨SS_nn h h0 _, SS_le3 h h3 hl _⟩
theorem e_gb {s : Int} {l : List Nat} {x : R5} (h : VQ x) (hl : VL l) : f_given_behind [dQ x, .int s, .str (rowS l)] = M.ret (.int (gv s l x)) := e_given_behind h hl
theorem e_lg {s : Int} {l : List Nat} {x : R5} (h : VQ x) (hl : VL l) (h0 : 0 ≤ s) : ∃ ds, f__law_givens [dQ x, .int s, .str (rowS l)] = M.ret (.lst ds) ∧ D.ix (.lst ds) (.int (-1)) = some (.int (gv s l x)) := by
  refine ⟨_, e_law_givens h h0 hl, ?_⟩
  rw [givL_snoc, List.map_append]
  exact ix_end
def fits (s : Int) (cs : List (List Nat × Int)) (x : R5) : Bool := cs.all fun c => decide (gv s c.1 x = c.2)
section
variable {s : Int} {cs : List (List Nat × Int)} {l : List Nat}
theorem e_fitting (h : VC cs) : f_fitting [.int s, csD cs] = M.ret (.lst ((allT.filter (fits s cs)).map dQ)) := by
  have hl : (cs.map cdD).length = cs.length := List.length_map _
  have c1 : ∀ x : R5, VQ x → ∀ a3 a4 : S, c_fitting_1 [.d (.int s), .d (csD cs), .d (dQ x), a3, a4] = M.ret (cs.map fun c => D.bl (decide (gv s c.1 x = c.2))) := fun x hx a3 a4 => by
    unfold c_fitting_1
    rw [compM_ap]
    simp only [rdv_0, rdv_s, bnd_ret, itemsK_t]
    rw [lenK_ap (by rw [hl]; have := h.len; omega), bnd_ret]
    refine comp_each cdD _ cs fun c hc => ⟨_, gT_ap _ rfl, rfl, ?_⟩
    obtain ⟨k1, _⟩ := h.ok c hc
    simp only [wipeG, List.set, bin_ap, consM_b, bnd_assoc, rdv_0, rdv_s, bnd_ret, call_3, e_gb hx k1, eqI, opt_ret]
  have c2 : c_fitting_2 [.d (.int s), .d (csD cs), .no, .no, .no] = M.ret ((allT.filter (fits s cs)).map dQ) := by
    unfold c_fitting_2
    rw [compM_ap]
    simp only [bnd_ret, bnd_assoc, call_0, e_all_rules, itemsK_l]
    rw [lenK_ap (by rw [List.length_map, allT_len]; decide), bnd_ret]
    refine comp_gen dQ (fits s cs) dQ allT fun x hx => ⟨_, rfl, ?_, fun _ => rfl⟩
    have e := all_bl (cs.map fun c => decide (gv s c.1 x = c.2))
    rw [List.map_map] at e
    have ea : D.all [.lst (cs.map fun c => D.bl (decide (gv s c.1 x = c.2)))] = some (.bl (fits s cs x)) := e.trans (by unfold fits; rw [List.all_map]; rfl)
    simp only [wipeG, List.set, consM_b, bnd_assoc, lstOf_ap, c1 x (allT_ok x hx), bnd_ret, ea, opt_ret, asB_bl]
  simp only [f_fitting, runD, m_fitting, initG, List.map_cons, List.map_nil, List.length_cons, List.length_nil, List.cons_append, List.nil_append, List.replicate, retM_ap, lstOf_ap, bnd_assoc]
  rw [c2, bnd_ret, bnd_ret, bnd_ret]
  rfl
theorem e_rules_told (h0 : 0 ≤ s) (h3 : s ≤ 3) (h : VC cs) : f_rules_told [.int s, csD cs] = M.ret (.lst ((allT.filter (fits s cs)).map dQ)) := by
  simp only [f_rules_told, runD, m_rules_told, initG, List.map_cons, List.map_nil, List.length_cons, List.length_nil, List.cons_append, List.nil_append, List.replicate, seqM_ap, dropM_ap, consM_b, bnd_assoc, rdv_0, rdv_s, bnd_ret, call_1, call_2, e_need_start h0 h3, seqK_nx, e_need_cards h, retM_ap, e_fitting h, outK_rt]
end
end DL.WK09

set_option Elab.async false
set_option linter.all false
set_option maxRecDepth 100000
set_option maxHeartbeats 400000
namespace DL.WK09
open PySem PySem.Spec PyProof.Rows L2
section
variable {s : Int} {cs : List (List Nat × Int)} {l : List Nat}
theorem sset_i {W : List Int} (h1 : W.length ≤ 1000) (h2 : ∀ x ∈ W, 0 ≤ x ∧ x ≤ 3) : D.sset (.lst (W.map D.int)) = some (.lst ((smallS W).map D.int)) := by
  have hb : smallB W = true := by
    unfold smallB
    rw [List.all_eq_true]
    intro k hk
    have := h2 k hk
    exact decide_eq_true (by omega)
  show (match intL (W.map D.int) with | some ns => if ns.length ≤ 1000 ∧ smallB ns = true then some (D.lst ((smallS ns).map D.int)) else none | none => none) = _
  rw [ints_map]
  exact if_pos ⟨h1, hb⟩
/-- the one of some, or none -/
def svD (w : List Int) : D := if w.length = 1 then .int (w.getD 0 0) else .non
theorem okE_sv (w : List Int) : okE 20 (svD w) = true := by
  unfold svD
  split <;> simp [okE]
theorem sv_pick (w : List Int) : (if decide ((w.length : Int) = 1) = true then opt (D.ix (.lst (w.map D.int)) (.int 0)) else M.ret D.non) = M.ret (svD w) := by
  by_cases c : w.length = 1
  · match w, c with
    | [x], _ => rfl
  · have c' : ¬ (w.length : Int) = 1 := by omega
    rw [decide_eq_false c', if_neg Bool.false_ne_true]
    unfold svD
    rw [if_neg c]
theorem due_ok {f : R5 → Bool} : ∀ x ∈ allT.filter f, VQ x := fun x hx => allT_ok x (List.mem_filter.mp hx).1
theorem due_len (f : R5 → Bool) : (allT.filter f).length ≤ 144 := by
  have := List.length_filter_le f allT
  rw [allT_len] at this
  exact this
theorem e_surely (h0 : 0 ≤ s) (h3 : s ≤ 3) (h : VC cs) (hl : VL l) : f_surely [.int s, csD cs, .str (rowS l)] = M.ret (svD (smallS ((allT.filter (fits s cs)).map (gv s l)))) := by
  have dl := due_len (fits s cs)
  have c1 : c_surely_1 [.d (.int s), .d (csD cs), .d (.str (rowS l)), .no, .no] = M.ret (((allT.filter (fits s cs)).map (gv s l)).map D.int) := by
    unfold c_surely_1
    rw [compM_ap]
    simp only [consM_b, rdv_0, rdv_s, bnd_ret, bnd_assoc, call_2, e_fitting h, itemsK_l]
    rw [lenK_ap (by rw [List.length_map]; omega), bnd_ret, List.map_map]
    refine comp_each dQ _ _ fun x hx => ⟨_, rfl, rfl, ?_⟩
    simp only [wipeG, List.set, consM_b, bnd_assoc, rdv_0, rdv_s, bnd_ret, call_3, e_gb (due_ok x hx) hl]
    rfl
  have ss := sset_i (W := (allT.filter (fits s cs)).map (gv s l)) (by rw [List.length_map]; omega) (fun x hx => by
    obtain ⟨y, hy, rfl⟩ := List.mem_map.mp hx
    exact gv_in (due_ok y hy) hl h0 h3)
  simp only [f_surely, runD, m_surely, initG, List.map_cons, List.map_nil, List.length_cons, List.length_nil, List.cons_append, List.nil_append, List.replicate]
  simp only [seqM_ap, dropM_ap, consM_b, bnd_assoc, rdv_0, rdv_s, bnd_ret, call_1, e_need_start h0 h3, seqK_nx, e_need_cards h, e_need_row hl, asgM_ap, un1_ap, lstOf_ap, c1, ss, opt_ret, gN_ap, List.set, bnd_optS, retM_ap, ifM_b, bin_ap, len_l, List.length_map, eqI, asB_bl, sv_pick, outK_rt]
theorem all_filterN {α : Type} (p : α → Bool) : ∀ l : List α, (l.map p).all id = (l.filter fun x => !p x).isEmpty
  | [] => rfl
  | a :: l => by
    have ih := all_filterN p l
    rw [List.map_cons, List.all_cons, ih, List.filter_cons]
    cases p a <;> simp
theorem e_law_fitting (h0 : 0 ≤ s) (h : VC cs) : f__law_fitting [.int s, csD cs] = M.ret (.lst ((allT.filter (fits s cs)).map dQ)) := by
  have hl : (cs.map cdD).length = cs.length := List.length_map _
  have ng : D.neg (.int 1) = some (.int (-1)) := rfl
  have c1 : ∀ x : R5, VQ x → ∀ a2 a4 a5 : S, c__law_fitting_1 [.d (.int s), .d (csD cs), a2, .d (dQ x), a4, a5] = M.ret ((cs.filter fun c => !decide (gv s c.1 x = c.2)).map fun _ => D.int 1) := fun x hx a2 a4 a5 => by
    unfold c__law_fitting_1
    rw [compM_ap]
    simp only [rdv_0, rdv_s, bnd_ret, itemsK_t]
    rw [lenK_ap (by rw [hl]; have := h.len; omega), bnd_ret]
    refine comp_gen cdD (fun c => !decide (gv s c.1 x = c.2)) _ cs fun c hc => ⟨_, gT_ap _ rfl, ?_, fun _ => rfl⟩
    obtain ⟨k1, _⟩ := h.ok c hc
    obtain ⟨ds, e1, e2⟩ := e_lg hx k1 h0
    simp only [wipeG, List.set, bin_ap, un1_ap, consM_b, bnd_assoc, rdv_0, rdv_s, bnd_ret, call_3, e1, ng, opt_ret, e2, bnd_optS, neI, asB_bl]
  obtain ⟨Γ', e1, y3, e2⟩ := for_ix (st := gN 3) (body := b__law_fitting_1) (fun i Γ => ∃ y3, Γ = [.d (.int s), .d (csD cs), .own (((allT.take i).filter (fits s cs)).map dQ), y3, .no, .no])
    (allT.map dQ) 0 [.d (.int s), .d (csD cs), .own [], .no, .no, .no] ⟨.no, rfl⟩ (fun j x Γ hx hG => by
      obtain ⟨y3, rfl⟩ := hG
      rw [List.getElem?_map] at hx
      obtain ⟨q, hq, rfl⟩ := Option.map_eq_some_iff.mp hx
      rw [Nat.zero_add]
      have hv := allT_ok q (List.mem_of_getElem? hq)
      have tk : allT.take (j + 1) = allT.take j ++ [q] := by rw [List.take_add_one, hq]; rfl
      have ck := c1 q hv (.own (((allT.take j).filter (fits s cs)).map dQ)) .no .no
      have en : D.eq (.lst ((cs.filter fun c => !decide (gv s c.1 q = c.2)).map fun _ => D.int 1)) (.lst []) = some (.bl (fits s cs q)) := by
        rw [eq_nil (n := 0) _ (by
          refine okEs_all fun d hd => ?_
          obtain ⟨_, _, rfl⟩ := List.mem_map.mp hd
          simp [okE]), List.isEmpty_map, ← all_filterN]
        unfold fits
        rw [List.all_map]
        rfl
      have ll : (((allT.take j).filter (fits s cs)).map dQ).length < 100000 := by
        rw [List.length_map]
        have h1 := List.length_filter_le (fits s cs) (allT.take j)
        have h2 := List.length_take_le j allT
        have h3 : (allT.take j).length ≤ allT.length := by rw [List.length_take]; exact Nat.min_le_right _ _
        rw [allT_len] at h3
        omega
      have l0 : lstK [] = M.ret (.lst []) := lstK_ap (Nat.zero_le _)
      cases c : fits s cs q with
      | true =>
        refine ⟨_, [.d (.int s), .d (csD cs), .own (((allT.take (j + 1)).filter (fits s cs)).map dQ), .d (dQ q), .no, .no], rfl, ?_, _, rfl⟩
        rw [tk, List.filter_append, List.map_append, List.filter_cons_of_pos c]
        simp only [b__law_fitting_1, m__law_fitting_1, List.set, ifM_b, bin_ap, bnd_assoc, lstOf_ap, ck, bnd_ret, l0, en, c, opt_ret, bnd_optS, asB_bl, if_true, app_at (i := 2) (Γ := [_, _, .own _, _, _, _]) _ rfl, rdv_0, rdv_s, appK_ap ll]
        rfl
      | false =>
        refine ⟨_, [.d (.int s), .d (csD cs), .own (((allT.take (j + 1)).filter (fits s cs)).map dQ), .d (dQ q), .no, .no], rfl, ?_, _, rfl⟩
        rw [tk, List.filter_append, List.map_append, List.filter_cons_of_neg (by rw [c]; exact Bool.false_ne_true)]
        simp only [b__law_fitting_1, m__law_fitting_1, List.set, ifM_b, bin_ap, bnd_assoc, lstOf_ap, ck, bnd_ret, l0, en, c, opt_ret, bnd_optS, asB_bl, Bool.false_eq_true, if_false, nxM_ap, List.filter_nil, List.map_nil, List.append_nil])
  rw [Nat.zero_add, List.length_map, List.take_length] at e2
  subst e2
  simp only [f__law_fitting, runD, m__law_fitting, initG, List.map_cons, List.map_nil, List.length_cons, List.length_nil, List.cons_append, List.nil_append, List.replicate]
  simp only [seqM_ap, ownM_ap, bnd_ret, lenK_ap (show ([] : List D).length ≤ 100000 from Nat.zero_le _), seqK_nx, List.set, m__law_fitting_2, forM_ap, bnd_assoc, call_0, e_every, itemsK_l, e1, retM_ap, rdv_0, rdv_s, outK_rt, frz_at (i := 2) (Γ := [_, _, .own _, _, _, _]) rfl]
end
end DL.WK09

set_option Elab.async false
set_option linter.all false
set_option maxRecDepth 100000
set_option maxHeartbeats 400000
namespace DL.WK09
open PySem PySem.Spec PyProof.Rows L2
/-! ### cards are drawn -/
def CardsD (x : D) : Prop := ∃ cs, x = csD cs ∧ VC cs
theorem h_cards {s : Int} {x : R5} (hx : VQ x) (h0 : 0 ≤ s) (h3 : s ≤ 3) : Hb (f__law_cards [.bag, dQ x, .int s]) CardsD := by
  refine Hb.run ?_
  have t0 : tupK [] = M.ret (.tup []) := tupK_ap (Nat.zero_le _)
  have t1 : ∀ a : D, tupK [a] = M.ret (.tup [a]) := fun a => tupK_ap (by show 1 ≤ 100000; decide)
  have t2 : ∀ a b : D, tupK [a, b] = M.ret (.tup [a, b]) := fun a b => tupK_ap (by show 2 ≤ 100000; decide)
  have ng : D.neg (.int 1) = some (.int (-1)) := rfl
  simp only [m__law_cards, m__law_cards_1, initG, List.map_cons, List.map_nil, List.length_cons, List.length_nil, List.cons_append, List.nil_append, List.replicate, seqM_ap, asgM_ap, bnd_ret, t0, gN_ap, List.set, bnd_optS, seqK_nx, forM_ap, consM_b, bnd_assoc, rdv_0, rdv_s, call_2]
  refine Hb.bnd (h_take (m := 5) (by decide)) fun y ⟨t, e, ht⟩ => ?_
  subst e
  simp only [bnd_ret, rng1_ap (n := t) (by omega)]
  refine Hb.bnd (Hb.forI (st := gN 4) (body := b__law_cards_1) (fun i Γ => ∃ (cs : List (List Nat × Int)) (y4 y5 y6 : S), cs.length = i ∧ (∀ c ∈ cs, VL c.1 ∧ 0 ≤ c.2 ∧ c.2 ≤ 3) ∧ Γ = [.d .bag, .d (dQ x), .d (.int s), .d (csD cs), y4, y5, y6]) (rngL 0 t) 0 _ ⟨[], .no, .no, .no, rfl, (fun c hc => by cases hc), rfl⟩ fun j z Γ hz hG => ?_) fun f ⟨Γ', e, cs, y4, y5, y6, hl, h1, eΓ⟩ => ?_
  · obtain ⟨cs, y4, y5, y6, hl, h1, rfl⟩ := hG
    obtain ⟨hj, rfl⟩ := rngL_at hz
    refine ⟨_, rfl, ?_⟩
    simp only [b__law_cards_1, List.set, seqM_ap, asgM_ap, consM_b, bnd_assoc, rdv_0, rdv_s, bnd_ret, call_2]
    refine Hb.bnd h_row fun y ⟨l, e, hl12, hl3⟩ => ?_
    subst e
    have hv : VL l := ⟨by omega, hl3⟩
    obtain ⟨ds, e1, e2⟩ := e_lg hx hv h0
    have hg := gv_in hx hv h0 h3
    have ad : ∀ g : Int, D.add (csD cs) (.tup [.tup [.str (rowS l), .int g]]) = some (csD (cs ++ [(l, g)])) := fun g => by
      rw [add_t (by rw [List.length_map, List.length_singleton, hl]; omega)]
      unfold csD
      rw [List.map_append]
      rfl
    have fin : ∀ g : Int, 0 ≤ g → g ≤ 3 → ∃ Γ', (Fl.nx [.d .bag, .d (dQ x), .d (.int s), .d (csD (cs ++ [(l, g)])), .d (.int j), .d (.str (rowS l)), .d (.int (gv s l x))] = .nx Γ' ∨ Fl.nx [.d .bag, .d (dQ x), .d (.int s), .d (csD (cs ++ [(l, g)])), .d (.int j), .d (.str (rowS l)), .d (.int (gv s l x))] = .ct Γ') ∧ ∃ (cs : List (List Nat × Int)) (y4 y5 y6 : S), cs.length = 0 + j + 1 ∧ (∀ c ∈ cs, VL c.1 ∧ 0 ≤ c.2 ∧ c.2 ≤ 3) ∧ Γ' = [.d .bag, .d (dQ x), .d (.int s), .d (csD cs), y4, y5, y6] := fun g k0 k3 => by
      refine ⟨_, .inl rfl, cs ++ [(l, g)], _, _, _, by rw [List.length_append, hl]; rfl, fun c hc => ?_, rfl⟩
      rcases List.mem_append.mp hc with hc | hc
      · exact h1 c hc
      · rw [List.mem_singleton.mp hc]
        exact ⟨hv, k0, k3⟩
    simp only [gN_ap, List.set, bnd_optS, bnd_ret, seqK_nx, seqM_ap, asgM_ap, consM_b, bin_ap, un1_ap, bnd_assoc, rdv_0, rdv_s, call_2, call_3, e1, ng, opt_ret, e2, ifM_b]
    refine Hb.bnd (h_take (m := 12) (by decide)) fun y ⟨w, e, hw⟩ => ?_
    subst e
    simp only [bnd_ret, eqI, opt_ret, bnd_optS, asB_bl]
    cases c : decide ((w : Int) = 0) with
    | true =>
      simp only [if_true, bnd_assoc]
      refine Hb.bnd (h_take (m := 4) (by decide)) fun y ⟨g, e, hg4⟩ => ?_
      subst e
      simp only [bnd_ret, t2, t1, ad, bnd_optS, opt_ret]
      exact Hb.ret (fin (g : Int) (by omega) (by omega))
    | false =>
      simp only [Bool.false_eq_true, if_false, bnd_ret, t2, t1, ad, bnd_optS, opt_ret]
      exact Hb.ret (fin _ hg.1 hg.2)
  · subst e
    subst eΓ
    rw [rngL_len] at hl
    exact Hb.ret ⟨_, rfl, cs, rfl, ⟨by omega, h1⟩⟩
/-! ### the law -/
/-- what the law's slots are between its turns -/
def LG (ns : List Int) (Γ : Ga) : Prop := ∃ b1 b2 b3 b4 b5 b6 b7 b8 b9 b10, Γ = [.d (.scr ns), b1, b2, b3, b4, b5, b6, b7, b8, b9, b10]
theorem LG.cleanG {ns : List Int} {Γ : Ga} (h : LG ns Γ) : LG ns (cleanG Γ) := by
  obtain ⟨b1, b2, b3, b4, b5, b6, b7, b8, b9, b10, rfl⟩ := h
  exact ⟨_, _, _, _, _, _, _, _, _, _, rfl⟩
theorem okE_dR {m b r d : Nat} {u : Bool} (n : Nat) : okE (n + 1) (dR m b u r d) = true := by
  unfold dR
  simp only [okE, okEs, Bool.true_and, Bool.and_true]
  cases u <;> kernel_rfl
theorem okEs_rules (n : Nat) : ∀ xs : List R5, okEs (n + 1) (xs.map dQ) = true
  | [] => by simp [okEs]
  | x :: xs => by
    rw [List.map_cons]
    simp only [okEs, Bool.and_eq_true]
    exact ⟨okE_dR n, okEs_rules n xs⟩
theorem ne_rules (xs : List R5) : D.ne (.lst (xs.map dQ)) (.lst (xs.map dQ)) = some (.bl false) := ne_self (by
  simp only [okE]
  exact okEs_rules 18 xs)
theorem ruleD {x : D} (h : RuleD x) : ∃ q : R5, x = dQ q ∧ VQ q := by
  obtain ⟨m, b, u, r, d, rfl, h⟩ := h
  exact ⟨(m, b, u, r, d), rfl, h⟩
theorem e_due {s : Int} {l : List Nat} {f : R5 → Bool} (hl : VL l) (h0 : 0 ≤ s) (x0 x1 x2 x3 x5 x8 x9 x10 : S) : c_law_1 [x0, x1, x2, x3, .d (.int s), x5, .d (.str (rowS l)), .d (.lst ((allT.filter f).map dQ)), x8, x9, x10] = M.ret (((allT.filter f).map (gv s l)).map D.int) := by
  have dl := due_len f
  have ng : D.neg (.int 1) = some (.int (-1)) := rfl
  unfold c_law_1
  rw [compM_ap]
  simp only [rdv_0, rdv_s, bnd_ret, itemsK_l]
  rw [lenK_ap (by rw [List.length_map]; omega), bnd_ret, List.map_map]
  refine comp_each dQ _ _ fun x hx => ⟨_, rfl, rfl, ?_⟩
  obtain ⟨ds, e1, e2⟩ := e_lg (due_ok x hx) hl h0
  simp only [wipeG, List.set, bin_ap, un1_ap, consM_b, bnd_assoc, rdv_0, rdv_s, bnd_ret, call_3, e1, ng, opt_ret, e2]
  rfl
theorem e_blk3 (ns : List Int) (k : Int) (s3 s4 s5 s6 s7 s8 s9 s10 : S) : Hb (m_law_3 [.d (.scr ns), .d (.int k), .d .bag, s3, s4, s5, s6, s7, s8, s9, s10]) fun f => ∃ Γ', f = .nx Γ' ∧ LG ns Γ' := by
  have t2 : ∀ a b : D, tupK [a, b] = M.ret (.tup [a, b]) := fun a b => tupK_ap (by show 2 ≤ 100000; decide)
  unfold m_law_3
  simp only [seqM_ap, asgM_ap, consM_b, bnd_assoc, rdv_0, rdv_s, bnd_ret, call_1]
  refine Hb.bnd h_rule fun y hy => ?_
  obtain ⟨q, rfl, hq⟩ := ruleD hy
  simp only [call_2]
  refine Hb.bnd (h_take (m := 4) (by decide)) fun y ⟨g, e, hg⟩ => ?_
  subst e
  have h0 : (0 : Int) ≤ (g : Int) := by omega
  have h3 : (g : Int) ≤ 3 := by omega
  have eg : gT 2 (gsCons (gN 3) (gsCons (gN 4) gsNil)) (.tup [dQ q, .int g]) [.d (.scr ns), .d (.int k), .d .bag, s3, s4, s5, s6, s7, s8, s9, s10] = some [.d (.scr ns), .d (.int k), .d .bag, .d (dQ q), .d (.int g), s5, s6, s7, s8, s9, s10] := gT_ap _ rfl
  simp only [bnd_ret, t2, eg, bnd_optS, seqK_nx, seqM_ap, asgM_ap, consM_b, bnd_assoc, rdv_0, rdv_s, call_3]
  refine Hb.bnd (h_cards hq h0 h3) fun y ⟨cs, e, hc⟩ => ?_
  subst e
  try simp only [call_2]
  refine Hb.bnd h_row fun y ⟨l, e, hl12, hl3⟩ => ?_
  subst e
  have hv : VL l := ⟨by omega, hl3⟩
  have eg2 : gT 2 (gsCons (gN 5) (gsCons (gN 6) gsNil)) (.tup [csD cs, .str (rowS l)]) [.d (.scr ns), .d (.int k), .d .bag, .d (dQ q), .d (.int g), s5, s6, s7, s8, s9, s10] = some [.d (.scr ns), .d (.int k), .d .bag, .d (dQ q), .d (.int g), .d (csD cs), .d (.str (rowS l)), s7, s8, s9, s10] := gT_ap _ rfl
  have li : D.isi [.lst ((allT.filter (fits g cs)).map dQ), .obj (.ty "list")] = some (.bl true) := rfl
  have dl := due_len (fits g cs)
  have ss := sset_i (W := (allT.filter (fits g cs)).map (gv g l)) (by rw [List.length_map]; omega) (fun x hx => by
    obtain ⟨y, hy, rfl⟩ := List.mem_map.mp hx
    exact gv_in (due_ok y hy) hv h0 h3)
  have nsv := ne_self (okE_sv (smallS ((allT.filter (fits g cs)).map (gv g l))))
  simp only [bnd_ret, t2, eg2, bnd_optS, seqK_nx, seqM_ap, asgM_ap, consM_b, bnd_assoc, rdv_0, rdv_s, call_2, e_law_fitting h0 hc, gN_ap, List.set, e_rules_told h0 h3 hc, m_law_1, ifM_b, orM, notM_b, bin_ap, ne_rules, opt_ret, asB_bl, Bool.false_eq_true, if_false, li, Bool.not_true, nxM_ap, un1_ap, lstOf_ap, e_due hv h0, ss, m_law_2, call_3, e_surely h0 h3 hc hv, len_l, List.length_map, eqI, sv_pick, nsv]
  exact Hb.ret ⟨_, rfl, _, _, _, _, _, _, _, _, _, _, rfl⟩
theorem e_blk (ns : List Int) (k : Nat) (b2 b3 b4 b5 b6 b7 b8 b9 b10 : S) (bs : MS) : ∃ Γ', b_law_1 [.d (.scr ns), .d (.int k), b2, b3, b4, b5, b6, b7, b8, b9, b10] bs = some (.ok (.nx Γ'), bs) ∧ LG ns Γ' := by
  obtain ⟨row, hrow⟩ := e_bag ns k
  have e : callN 2 f__law_bag [.scr ns, .int k] = f__law_bag [.scr ns, .int k] := if_pos rfl
  obtain ⟨f, r, e9, Γ', rfl, hG⟩ := e_blk3 ns k (cleanS b3) (cleanS b4) (cleanS b5) (cleanS b6) (cleanS b7) (cleanS b8) (cleanS b9) (cleanS b10) (msB row)
  refine ⟨DL.cleanG Γ', ?_, hG.cleanG⟩
  have ec : DL.cleanG [.d (.scr ns), .d (.int k), b2, b3, b4, b5, b6, b7, b8, b9, b10] = [.d (.scr ns), .d (.int k), cleanS b2, cleanS b3, cleanS b4, cleanS b5, cleanS b6, cleanS b7, cleanS b8, cleanS b9, cleanS b10] := rfl
  unfold b_law_1 bagM
  rw [ec]
  simp only [consM_b, rdv_0, rdv_s, bnd_ret, e, hrow]
  show (match intL (row.map D.int) with | some ns => unbag bs (m_law_3 _ (msB ns)) | none => none) = _
  rw [ints_map]
  show unbag bs (m_law_3 [.d (.scr ns), .d (.int k), .d .bag, cleanS b3, cleanS b4, cleanS b5, cleanS b6, cleanS b7, cleanS b8, cleanS b9, cleanS b10] (msB row)) = _
  rw [e9]
  rfl
end DL.WK09

set_option Elab.async false
set_option linter.all false
set_option maxRecDepth 100000
set_option maxHeartbeats 400000
namespace DL.WK09
open PySem PySem.Spec PyProof.Rows L2
theorem tail_ok (c0 c1 c2 c3 c4 c5 c6 c7 c8 c9 c10 : S) : (seqM m_law_5 (seqM m_law_6 (retM (fun Γ => andV ((bin D.isN (fun Γ => M.bnd ((fun Γ => consM ((fun _ => M.ret (D.int 0)) Γ) ((fun Γ => consM ((fun Γ => M.bnd ((fun Γ => consM ((fun Γ => M.bnd ((fun Γ => consM ((fun _ => M.ret (D.str "0")) Γ) ((fun Γ => consM ((fun _ => M.ret (D.int 1)) Γ) ((fun _ => M.ret []) Γ)) Γ)) Γ) tupK) Γ) ((fun _ => M.ret []) Γ)) Γ) tupK) Γ) ((fun Γ => consM ((fun _ => M.ret (D.str "0")) Γ) ((fun _ => M.ret []) Γ)) Γ)) Γ)) Γ) (callK 3 f_surely)) (fun _ => M.ret D.non)) Γ) ((fun Γ => andV ((bin D.eq (fun Γ => M.bnd ((fun Γ => consM ((fun _ => M.ret (D.int 2)) Γ) ((fun Γ => consM ((fun Γ => M.bnd ((fun _ => M.ret []) Γ) tupK) Γ) ((fun Γ => consM ((fun _ => M.ret (D.str "")) Γ) ((fun _ => M.ret []) Γ)) Γ)) Γ)) Γ) (callK 3 f_surely)) (fun _ => M.ret (D.int 2))) Γ) ((bin D.eq (fun Γ => M.bnd ((fun Γ => consM ((fun Γ => M.bnd ((fun Γ => consM ((fun _ => M.ret (D.int 1)) Γ) ((fun Γ => consM ((fun Γ => M.bnd ((fun Γ => consM ((fun Γ => M.bnd ((fun Γ => consM ((fun _ => M.ret (D.str "")) Γ) ((fun Γ => consM ((fun _ => M.ret (D.int 1)) Γ) ((fun _ => M.ret []) Γ)) Γ)) Γ) tupK) Γ) ((fun _ => M.ret []) Γ)) Γ) tupK) Γ) ((fun _ => M.ret []) Γ)) Γ)) Γ) (callK 2 f_rules_told)) Γ) ((fun _ => M.ret []) Γ)) Γ) fun xs => opt (D.len xs)) (fun _ => M.ret (D.int 144))) Γ)) Γ))))) [c0, c1, c2, c3, c4, c5, c6, c7, c8, c9, c10] ⟨[], [], Str.empty, []⟩ = some (.ok (.rt (.bl true)), ⟨[], [], Str.empty, []⟩) := by kernel_rfl
end DL.WK09

set_option Elab.async false
set_option linter.all false
set_option maxRecDepth 100000
set_option maxHeartbeats 400000
namespace DL.WK09
open PySem PySem.Spec PyProof.Rows L2
theorem for_at {st : D → Ga → Option Ga} {body : Ga → M Fl} (G : Nat → Ga → MS → Prop) : ∀ (xs : List D) (i : Nat) (Γ : Ga) (bs : MS), G i Γ bs → (∀ j x Γ bs, xs[j]? = some x → G (i + j) Γ bs → ∃ Γ1 Γ2 b2, st x Γ = some Γ1 ∧ body Γ1 bs = some (.ok (.nx Γ2), b2) ∧ G (i + j + 1) Γ2 b2) →
    ∃ Γ' b', forL st body xs Γ bs = some (.ok (.nx Γ'), b') ∧ G (i + xs.length) Γ' b'
  | [], i, Γ, bs, h, _ => ⟨Γ, bs, rfl, h⟩
  | x :: xs, i, Γ, bs, h, k => by
    obtain ⟨Γ1, Γ2, b2, e1, e2, g⟩ := k 0 x Γ bs rfl h
    obtain ⟨Γ', b', e3, g3⟩ := for_at G xs (i + 1) Γ2 b2 g fun j y Γ2 bs hy hi => by
      have := k (j + 1) y Γ2 bs (by simpa using hy) (by rw [show i + (j + 1) = i + 1 + j by omega]; exact hi)
      rw [show i + (j + 1) + 1 = i + 1 + j + 1 by omega] at this
      exact this
    refine ⟨Γ', b', ?_, by rw [List.length_cons, show i + (xs.length + 1) = i + 1 + xs.length by omega]; exact g3⟩
    show (M.bnd (opt (st x Γ)) fun Γ1 => M.bnd (body Γ1) (forK (forL st body xs))) bs = _
    rw [e1, bnd_optS, bnd_ok e2, forK_nx, e3]
theorem f_law_ok (ns : List Int) : ∃ bs', f_law [.scr ns] ⟨[], [], Str.empty, []⟩ = some (.ok (.bl true), bs') := by
  obtain ⟨Γ', b', e, hG, hb⟩ := for_at (st := gN 1) (body := b_law_1) (fun _ Γ bs => LG ns Γ ∧ bs = ⟨[], [], Str.empty, []⟩)
    (rngL 0 4) 0 [.d (.scr ns), .no, .no, .no, .no, .no, .no, .no, .no, .no, .no] ⟨[], [], Str.empty, []⟩ ⟨⟨_, _, _, _, _, _, _, _, _, _, rfl⟩, rfl⟩ (fun t x Γ bs hx hG => by
      obtain ⟨⟨b1, b2, b3, b4, b5, b6, b7, b8, b9, b10, rfl⟩, rfl⟩ := hG
      obtain ⟨ht, rfl⟩ := rngL_at hx
      obtain ⟨Γ', e, h⟩ := e_blk ns t b2 b3 b4 b5 b6 b7 b8 b9 b10 ⟨[], [], Str.empty, []⟩
      exact ⟨_, _, _, rfl, e, h, rfl⟩)
  subst hb
  obtain ⟨b1, b2, b3, b4, b5, b6, b7, b8, b9, b10, rfl⟩ := hG
  have r4 : rng1K [.int 4] = M.ret (rngL 0 4) := rng1_ap (n := 4) (by decide)
  have p1 : ∀ {β : Type} (k : Fl → M β), M.bnd (forL (gN 1) b_law_1 (rngL 0 4) [.d (.scr ns), .no, .no, .no, .no, .no, .no, .no, .no, .no, .no]) k ⟨[], [], Str.empty, []⟩ = k (.nx [.d (.scr ns), b1, b2, b3, b4, b5, b6, b7, b8, b9, b10]) ⟨[], [], Str.empty, []⟩ := fun k => bnd_ok e
  refine ⟨⟨[], [], Str.empty, []⟩, ?_⟩
  simp only [f_law, runD, m_law, initG, List.map_cons, List.map_nil, List.length_cons, List.length_nil, List.cons_append, List.nil_append, List.replicate]
  rw [seqM_ap, bnd_assoc]
  simp only [m_law_4, forM_ap, consM_b, bnd_assoc, bnd_ret, r4, p1, seqK_nx]
  exact bnd_ok (tail_ok (.d (.scr ns)) b1 b2 b3 b4 b5 b6 b7 b8 b9 b10)
end DL.WK09

set_option Elab.async false
set_option linter.all false
set_option maxRecDepth 100000
set_option maxHeartbeats 400000
namespace DL.WK09
open PySem PySem.Spec PyProof.Rows L2
/-! ### the end -/
theorem tx_of {K : PySem.W.Frag} {h : Heap} {mg : Str → Option Value} {w : World} (X : K.In h) (G : h.Ns mainGlobals mg) (c : He.SaysX faL fnL [] tfL exL w h K) : Tx K mg := by
  have cd := c.t.d
  have dd : ∀ (i : Nat) (d : He.DefD), fnL[i]? = some d → ∃ fd, FunD K d.name d.qual d.params d.body d.scope (d.dvs K) (d.kws K) (He.fAd K d.at_) fd := fun i d h => cd.def_ i h
  have ff : ∀ (i : Nat) (f : He.Fa), faL[i]? = some f → f.ok K = true := fun i f h => cd.fact i h
  exact {
    d_is_whole := (dd 0 _ rfl).elim fun fd F => ⟨fd, F, He.glo_ok X G (x := "is_whole") (ff 0 _ rfl)⟩,
    d_fits_row := (dd 1 _ rfl).elim fun fd F => ⟨fd, F, He.glo_ok X G (x := "fits_row") (ff 1 _ rfl)⟩,
    d_need_start := (dd 2 _ rfl).elim fun fd F => ⟨fd, F, He.glo_ok X G (x := "need_start") (ff 2 _ rfl)⟩,
    d_need_row := (dd 3 _ rfl).elim fun fd F => ⟨fd, F, He.glo_ok X G (x := "need_row") (ff 3 _ rfl)⟩,
    d_first_state := (dd 4 _ rfl).elim fun fd F => ⟨fd, F, He.glo_ok X G (x := "first_state") (ff 4 _ rfl)⟩,
    d_moved := (dd 5 _ rfl).elim fun fd F => ⟨fd, F, He.glo_ok X G (x := "moved") (ff 5 _ rfl)⟩,
    d_went := (dd 6 _ rfl).elim fun fd F => ⟨fd, F, He.glo_ok X G (x := "went") (ff 6 _ rfl)⟩,
    d_given_behind := (dd 7 _ rfl).elim fun fd F => ⟨fd, F, He.glo_ok X G (x := "given_behind") (ff 7 _ rfl)⟩,
    d_is_card := (dd 8 _ rfl).elim fun fd F => ⟨fd, F, He.glo_ok X G (x := "is_card") (ff 8 _ rfl)⟩,
    d_need_cards := (dd 9 _ rfl).elim fun fd F => ⟨fd, F, He.glo_ok X G (x := "need_cards") (ff 9 _ rfl)⟩,
    d_all_rules := (dd 10 _ rfl).elim fun fd F => ⟨fd, F, He.glo_ok X G (x := "all_rules") (ff 10 _ rfl)⟩,
    d_fitting := (dd 11 _ rfl).elim fun fd F => ⟨fd, F, He.glo_ok X G (x := "fitting") (ff 11 _ rfl)⟩,
    d_rules_told := (dd 12 _ rfl).elim fun fd F => ⟨fd, F, He.glo_ok X G (x := "rules_told") (ff 12 _ rfl)⟩,
    d_surely := (dd 13 _ rfl).elim fun fd F => ⟨fd, F, He.glo_ok X G (x := "surely") (ff 13 _ rfl)⟩,
    d__law_cell := (dd 14 _ rfl).elim fun fd F => ⟨fd, F, He.glo_ok X G (x := "_law_cell") (ff 14 _ rfl)⟩,
    d__law_draws := (dd 15 _ rfl).elim fun fd F => ⟨fd, F, He.glo_ok X G (x := "_law_draws") (ff 15 _ rfl)⟩,
    d__law_bag := (dd 16 _ rfl).elim fun fd F => ⟨fd, F, He.glo_ok X G (x := "_law_bag") (ff 16 _ rfl)⟩,
    d__law_take := (dd 17 _ rfl).elim fun fd F => ⟨fd, F, He.glo_ok X G (x := "_law_take") (ff 17 _ rfl)⟩,
    d__law_choice := (dd 18 _ rfl).elim fun fd F => ⟨fd, F, He.glo_ok X G (x := "_law_choice") (ff 18 _ rfl)⟩,
    d__law_known := (dd 19 _ rfl).elim fun fd F => ⟨fd, F, He.glo_ok X G (x := "_law_known") (ff 19 _ rfl)⟩,
    d__law_rule := (dd 20 _ rfl).elim fun fd F => ⟨fd, F, He.glo_ok X G (x := "_law_rule") (ff 20 _ rfl)⟩,
    d__law_row := (dd 21 _ rfl).elim fun fd F => ⟨fd, F, He.glo_ok X G (x := "_law_row") (ff 21 _ rfl)⟩,
    d__law_next := (dd 22 _ rfl).elim fun fd F => ⟨fd, F, He.glo_ok X G (x := "_law_next") (ff 22 _ rfl)⟩,
    d__law_givens := (dd 23 _ rfl).elim fun fd F => ⟨fd, F, He.glo_ok X G (x := "_law_givens") (ff 23 _ rfl)⟩,
    d__law_named_error := (dd 24 _ rfl).elim fun fd F => ⟨fd, F, He.glo_ok X G (x := "_law_named_error") (ff 24 _ rfl)⟩,
    d__law_error := (dd 25 _ rfl).elim fun fd F => ⟨fd, F, He.glo_ok X G (x := "_law_error") (ff 25 _ rfl)⟩,
    d__law_all_refused := (dd 26 _ rfl).elim fun fd F => ⟨fd, F, He.glo_ok X G (x := "_law_all_refused") (ff 26 _ rfl)⟩,
    d__law_bad_starts := (dd 27 _ rfl).elim fun fd F => ⟨fd, F, He.glo_ok X G (x := "_law_bad_starts") (ff 27 _ rfl)⟩,
    d__law_bad_rows := (dd 28 _ rfl).elim fun fd F => ⟨fd, F, He.glo_ok X G (x := "_law_bad_rows") (ff 28 _ rfl)⟩,
    d__law_every_rule := (dd 29 _ rfl).elim fun fd F => ⟨fd, F, He.glo_ok X G (x := "_law_every_rule") (ff 29 _ rfl)⟩,
    d__law_fitting := (dd 30 _ rfl).elim fun fd F => ⟨fd, F, He.glo_ok X G (x := "_law_fitting") (ff 30 _ rfl)⟩,
    d__law_cards := (dd 31 _ rfl).elim fun fd F => ⟨fd, F, He.glo_ok X G (x := "_law_cards") (ff 31 _ rfl)⟩,
    d__law_refused := (dd 32 _ rfl).elim fun fd F => ⟨fd, F, He.glo_ok X G (x := "_law_refused") (ff 32 _ rfl)⟩,
    d_law := (dd 33 _ rfl).elim fun fd F => ⟨fd, F, He.glo_ok X G (x := "law") (ff 33 _ rfl)⟩,
    z_ValueError := He.free_ok X G (x := "ValueError") (ff 34 _ rfl),
    z_all := He.free_ok X G (x := "all") (ff 35 _ rfl),
    z_bool := He.free_ok X G (x := "bool") (ff 36 _ rfl),
    z_int := He.free_ok X G (x := "int") (ff 37 _ rfl),
    z_isinstance := He.free_ok X G (x := "isinstance") (ff 38 _ rfl),
    z_len := He.free_ok X G (x := "len") (ff 39 _ rfl),
    z_list := He.free_ok X G (x := "list") (ff 40 _ rfl),
    z_max := He.free_ok X G (x := "max") (ff 41 _ rfl),
    z_min := He.free_ok X G (x := "min") (ff 42 _ rfl),
    z_range := He.free_ok X G (x := "range") (ff 43 _ rfl),
    z_set := He.free_ok X G (x := "set") (ff 44 _ rfl),
    z_sorted := He.free_ok X G (x := "sorted") (ff 45 _ rfl),
    z_str := He.free_ok X G (x := "str") (ff 46 _ rfl),
    z_sum := He.free_ok X G (x := "sum") (ff 47 _ rfl),
    z_tuple := He.free_ok X G (x := "tuple") (ff 48 _ rfl),
    z_zip := He.free_ok X G (x := "zip") (ff 49 _ rfl),
    c_MOST := He.int_ok X G (x := "MOST") (ff 50 _ rfl),
    c_ROUNDS := He.int_ok X G (x := "ROUNDS") (ff 51 _ rfl),
    c_SIGNS := He.str_ok X G (x := "SIGNS") (ff 52 _ rfl),
    g_WORDS := He.glo_ok X G (x := "WORDS") (ff 53 _ rfl),
    t_WORDS := He.tupB_ok (vs := [.str "down", .str "up"]) (He.ba c.more).1,
    g_InvalidCards := He.glo_ok X G (x := "InvalidCards") (ff 54 _ rfl),
    x_InvalidCards := He.exc_ok (x := "InvalidCards") (ff 55 _ rfl),
    g_InvalidRow := He.glo_ok X G (x := "InvalidRow") (ff 56 _ rfl),
    x_InvalidRow := He.exc_ok (x := "InvalidRow") (ff 57 _ rfl),
    g_InvalidStart := He.glo_ok X G (x := "InvalidStart") (ff 58 _ rfl),
    x_InvalidStart := He.exc_ok (x := "InvalidStart") (ff 59 _ rfl),
    g_StrokeError := He.glo_ok X G (x := "StrokeError") (ff 60 _ rfl),
    g_InvalidRule := He.glo_ok X G (x := "InvalidRule") (ff 61 _ rfl),
    g_InvalidPrizes := He.glo_ok X G (x := "InvalidPrizes") (ff 62 _ rfl),
    g_InvalidSkill := He.glo_ok X G (x := "InvalidSkill") (ff 63 _ rfl),
    g_InvalidNumber := He.glo_ok X G (x := "InvalidNumber") (ff 64 _ rfl),
    g_InvalidWords := He.glo_ok X G (x := "InvalidWords") (ff 65 _ rfl),
    g_InvalidIndex := He.glo_ok X G (x := "InvalidIndex") (ff 66 _ rfl),
    g_InvalidScore := He.glo_ok X G (x := "InvalidScore") (ff 67 _ rfl),
    g_InvalidSeen := He.glo_ok X G (x := "InvalidSeen") (ff 68 _ rfl),
    g_InvalidText := He.glo_ok X G (x := "InvalidText") (ff 69 _ rfl),
    g_TooMany := He.glo_ok X G (x := "TooMany") (ff 70 _ rfl),
    g_Unlike := He.glo_ok X G (x := "Unlike") (ff 71 _ rfl),
    g_NothingToUndo := He.glo_ok X G (x := "NothingToUndo") (ff 72 _ rfl),
    ex := ⟨(He.ba c.more).2⟩ }
def spL (K : PySem.W.Frag) : Sp := spD (gx K) K 1 f_law
theorem facts {w : World} {K : PySem.W.Frag} {h : Heap} {mg : Str → Option Value} {fa : Addr} (X : K.In h) (G : h.Ns mainGlobals mg) (hfa : mg ("law" : Str) = some (.ref fa)) (c : He.SaysX faL fnL [] tfL exL w h K)
    (hsp : ∀ (H : Hp) (a : Addr) (ns : List Int), ns.length ≤ 63 → TabsQ (gx K).T H → SqL K H a (ns.map V.int) → spL K [.ref a] H (fun v _ => v = .bl true) fun _ _ _ => False) : LamX.LawAtS PySem.Challenge.rw_cardstrokes_k09_rules_told_back w K (L2N.CX PySem.Challenge.pw_cardstrokes_k09_rules_told_back w) 11 63 "script" mg fa h := by
  have T := tx_of X G c
  have e := hfa.symm.trans T.d_law.choose_spec.2
  cases e
  obtain ⟨fd, F, hm⟩ := T.d_law
  obtain ⟨oc, od, dV, kV, doc, pm, an, cdv, ct, osl, e, lk, hcd, hdv, hkv⟩ := F.ex
  have hdn : dV = .none := by
    rcases hdv with ⟨_, h⟩ | ⟨h, _⟩
    · exact h
    · exact absurd rfl h
  subst hdn
  refine ⟨fd, tfL.map (He.cT K), spL K, fun p hp => ?_, fun p hp => ?_, fun p hp => ?_, fun s u => .of_eq (by rw [e]; rfl), fun H a ns hl _ hT hS => hsp H a ns hl (fun p hp => ?_) hS, fun base _ _ TB => ?_⟩
  · obtain ⟨q, hq, rfl⟩ := List.mem_map.mp hp
    exact c.empty q hq
  · obtain ⟨q, hq, rfl⟩ := List.mem_map.mp hp
    exact c.out q hq
  · obtain ⟨q, hq, rfl⟩ := List.mem_map.mp hp
    exact PySem.W.codeHd_of_K X (c.hd q hq)
  · obtain ⟨q, hq, rfl⟩ := List.mem_map.mp hp
    exact Tab1.nil (hT _ (List.mem_map.mpr ⟨q, hq, rfl⟩))
  · obtain ⟨fd2, F2, _, _, _, ⟨oc2, od2, osl2, lk2⟩, _⟩ := ok_law (P := PySem.Challenge.pw_cardstrokes_k09_rules_told_back) (w := w) (base := base) T (fun p hp => TB _ (List.mem_map.mpr ⟨p, hp, rfl⟩))
    rw [lk] at lk2
    cases lk2
    exact F2
theorem cx_no (P : Program) (w : World) : ∀ (H : Hp) (s : Shared) (e : Value) (s' : Shared), L2N.CX P w [] H s (fun _ _ _ => False) e s' → False := fun _ _ _ _ z => by
  obtain ⟨_, _, _, _, _, _, _, _, _, _, _, _, z⟩ := z
  exact z.elim
theorem sp_ok {K : PySem.W.Frag} {H : Hp} {a : Addr} {ns : List Int} (hT : TabsQ (gx K).T H) (hS : SqL K H a (ns.map V.int)) : spL K [.ref a] H (fun v _ => v = .bl true) fun _ _ _ => False := by
  obtain ⟨bs', e⟩ := f_law_ok ns
  have nh : ∀ b, ¬ (⟨none, none, 0, [], []⟩ : Mu).has b := fun b z => by
    rcases z with z | ⟨c, z, _⟩
    · cases z
    · cases z
  refine ⟨⟨none, none, 0, [], []⟩, H, [.scr ns], ⟨[], [], Str.empty, []⟩, rfl, Ex.refl H, (fun b z => absurd z (nh b)), ⟨(fun _ z => (nomatch z)), rfl, (fun _ z => (nomatch z))⟩, ⟨hT, dens_nil, fun _ z => (nomatch z)⟩, dens_cons (den_scr' hS) dens_nil, (by rw [e]; exact fun z => nomatch z), fun x bs2 e2 v B' H' _ _ d => ?_, fun c bs2 e2 => ?_⟩
  · rw [e] at e2
    cases e2
    exact den_bl d
  · rw [e] at e2
    exact nomatch e2
end DL.WK09
open PySem PySem.W PySem.Calls PyProof.Rows
set_option maxHeartbeats 0 in
theorem PySem.Challenge.cw_cardstrokes_k09_rules_told_back_holds : PySem.Challenge.rw_cardstrokes_k09_rules_told_back.Holds := by
  w_on; o_law
  refine HandSHeadRun.head_any (r := OpenLaw.row PySem.Challenge.rw_cardstrokes_k09_rules_told_back) (q := view (OpenLaw.row PySem.Challenge.rw_cardstrokes_k09_rules_told_back).prog [57]) (H := DL.WK09.hk) (ob := DL.WK09.ob) (M := 12000) (loose := DL.WK09.namesL) (d := HandSHeadRun.topDef (OpenLaw.row PySem.Challenge.rw_cardstrokes_k09_rules_told_back).prog 57) (kwd := []) DL.WK09.ob_eq
    (by kernel_rfl) (fun s => by kernel_rfl) DL.WK09.run (by kernel_rfl) (by kernel_rfl) (by kernel_rfl) (by rfl) (by first | assumption | decide +kernel) (by decide +kernel) ⟨rfl, rfl, rfl, rfl, rfl, by decide +kernel⟩ ?hw ?hc
  case hw => w_witness2
  case hc =>
    refine LamX.walk_ofTsE (l := PySem.Challenge.rw_cardstrokes_k09_rules_told_back) (n := 63) (k := 11) (x := "script") (CX := fun w => L2N.CX PySem.Challenge.pw_cardstrokes_k09_rules_told_back w) rfl (by decide) (by kernel_rfl) ⟨rfl, by decide, by decide⟩ ?F (fun w H s e s' z => DL.WK09.cx_no _ w H s e s' z)
    intro w mg fa h Y G hmg0
    obtain ⟨K, KX, c⟩ := Y
    have hmg : mg ("law" : PySem.Str) = some (.ref fa) := by
      have e : (HandSHeadRun.topDef (OpenLaw.row PySem.Challenge.rw_cardstrokes_k09_rules_told_back).prog 57).name = ("law" : PySem.Str) := by kernel_rfl
      rw [← e]
      exact hmg0
    exact ⟨K, KX, DL.WK09.facts (w := w) KX G hmg c fun H a ns _ hT hS => DL.WK09.sp_ok hT hS⟩
