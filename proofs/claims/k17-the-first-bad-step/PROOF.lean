import PyProof.Rows.All
import Wide.All
import OpenK.AllK
import Wide.FinOn
import HandS.Conv
import HandS.Deep
import HandS.Defaults
import HandS.DictTup
import HandS.EndBits
import HandS.Exc
import HandS.ExcCtx
import HandS.ExcField
import HandS.ExcInit
import HandS.ExcInitHot
import HandS.ExcIs
import HandS.Flow
import HandS.ForExc
import HandS.ForMost
import HandS.Head0
import HandS.Head1
import HandS.Head2
import HandS.HeadEnd
import HandS.HeadHook1
import HandS.HeadHook2
import HandS.HeadHook3
import HandS.HeadHook4
import HandS.Hot
import HandS.HotCalls
import HandS.IsInst
import HandS.Rev
import HandS.SetFor
import HandS.SortInts
import HandS.Strs
import HandS.Style
import HandS.SuiteRaise
import HandS.TryOnly
import HandS.TupAny
import HandS.TupLe
import HandS.TupMul
import HandS.Wide
import HandS.WideBits
import HandS.Words
import HandS.Zip
import KE.BitLaws
import KE.DataMinMax
import KE.DatumOrd
import KE.GoesEnum
import KE.KDictItemsList
import KE.KDictZip
import KE.KExcIs
import KE.KIndexOf
import KE.KRevSl
import KE.KSortTup
import KE.KTurns
import KE.SortData
import PyProof.DictUpdate
import PyProof.ExcBaseAll.ValueError
import PyProof.Rows.All
import PyProof.Rows.Walk
import PyProof.SeqIndex
import PySem.Challenge.RW_letterall_k17_the_first_bad_step
set_option Elab.async false
set_option maxRecDepth 100000
set_option linter.unusedVariables false
/-! HeadA: what the run of a law's head looks at. -/
namespace Ev
open PySem PySem.Spec PyProof.Rows L2
theorem run_join {α β γ δ : Type} {x : Option α} {f : α → β} {g : α → γ} {h : α → δ} {a : β} {b : γ} {c : δ} (h1 : x.map f = some a) (h2 : x.map g = some b) (h3 : x.map h = some c) : x.map (fun s => (f s, g s, h s)) = some (a, b, c) := by
  cases x with
  | none => cases h1
  | some s => cases h1; cases h2; cases h3; rfl
theorem run_join4 {α A B C D : Type} {x : Option α} {f : α → ((A × B) × C) × D} {v : ((A × B) × C) × D} (h1 : x.map (fun s => (f s).1.1.1) = some v.1.1.1) (h2 : x.map (fun s => ((f s).1.1.2, (f s).1.2, (f s).2)) = some (v.1.1.2, v.1.2, v.2)) : x.map f = some v := by
  cases x with
  | none => cases h1
  | some s =>
    have e1 : (f s).1.1.1 = v.1.1.1 := Option.some.inj h1
    have e2 : ((f s).1.1.2, (f s).1.2, (f s).2) = (v.1.1.2, v.1.2, v.2) := Option.some.inj h2
    show some (f s) = some v
    obtain ⟨⟨⟨a, b⟩, c⟩, d⟩ := v
    generalize f s = y at e1 e2
    obtain ⟨⟨⟨a', b'⟩, c'⟩, d'⟩ := y
    cases e1; cases e2; rfl
theorem run_join5 {α β : Type} {x : Option α} {A B : List β} {f : α → β → Bool} {c : α → Bool} (h1 : x.map (fun s => A.all (f s)) = some true) (h2 : x.map (fun s => B.all (f s) && c s) = some true) : x.map (fun s => (A ++ B).all (f s) && c s) = some true := by
  cases x with
  | none => cases h1
  | some s =>
    have e1 : A.all (f s) = true := Option.some.inj h1
    have e2 : (B.all (f s) && c s) = true := Option.some.inj h2
    show some ((A ++ B).all (f s) && c s) = some true
    rw [List.all_append, e1, Bool.true_and, e2]
section
variable {K : PySem.W.Frag}
/-- class C's method m is B's -/
abbrev Sm : Type := Str × Str × Str
def smB (K : PySem.W.Frag) (q : Sm) : Bool := decide (He.ma K (He.ga K q.1) q.2.2 = He.ma K (He.ga K q.2.1) q.2.2)
/-- a dict's value is a tuple of texts -/
abbrev Tx : Type := Str × Str × List Str
def txB (K : PySem.W.Frag) (q : Tx) : Bool := match PySem.W.nsIn K (He.ga K q.1) q.2.1 with
  | some (some (.ref e)) => (match K.lookup e with
    | some ⟨.type c, _, .seq its _, _⟩ => decide (c = "tuple") && (decide (its.size ≤ 1000) && He.relAll (q.2.2.map V.str) its.toList)
    | _ => false)
  | _ => false
/-- a dict has not this key -/
abbrev Nk : Type := Str × Str
def nkB (K : PySem.W.Frag) (q : Nk) : Bool := He.eqO (PySem.W.nsIn K (He.ga K q.1) q.2) (some none)
/-- an exceptions' class as isinstance asks it -/
def xcB (K : PySem.W.Frag) (x : Str) : Bool := He.eqO (PySem.W.findIn K (.ref (He.ga K x)) "__getattribute__") (some (some (.builtin "BaseException.__getattribute__"))) && (He.eqO (PySem.W.findIn K (.ref (He.ga K x)) "__getattr__") (some none) &&
  (decide (PySem.W.subIn K (.ref (He.ga K x)) (.type "BaseException") = some true) && (PySem.W.hasDictIn K (He.ga K x) && (He.eqO (PySem.W.findIn K (.ref (He.ga K x)) "__class__") (some (some (.builtin "object.__class__"))) &&
  (He.eqO (PySem.W.specialIn K (.builtin "object.__class__") "__get__") (some (some (.builtin "getset_descriptor.__get__"))) && (decide (PySem.W.takesIn K (.builtin "object.__class__") = some true) && decide (PySem.W.mroIn K (He.ga K x) (.type "object") = some true)))))))
def koB (K : PySem.W.Frag) (q : Str × Str × Bool) : Bool := decide (PySem.W.kitOne K (.ref (He.ga K q.1)) (.ref (He.ga K q.2.1)) = some q.2.2)
def ktB (K : PySem.W.Frag) (q : Str × String × Bool) : Bool := decide (PySem.W.kitOne K (.ref (He.ga K q.1)) (.type q.2.1) = some q.2.2)
/-- an exceptions' class with an __init__ of its own -/
def oxB (K : PySem.W.Frag) (x : Str) : Bool := (match K.lookup (He.ga K x) with
  | some ⟨.type "type", _, .cls cd, sl⟩ => (match cd.mro, sl.toList with
    | .ref C' :: bm, [_, _, _, _, some (.builtin n), _] => C' == He.ga K x && n == "ValueError.__new__" && !cd.hasDel && cd.hasDict && PySem.HandSPX.refsVE bm
    | _, _ => false)
  | _ => false) && (He.eqO (PySem.W.findIn K (.ref (He.ga K x)) "__setattr__") (some (some (.builtin "object.__setattr__"))) && (decide (PySem.W.subIn K (.ref (He.ga K x)) (.type "BaseException") = some true) && (decide (PySem.W.typeIn K (.ref (He.ga K x)) = some (.type "type")) &&
  (PySem.W.keepIn K (.ref (He.ga K x)) && (He.eqO (PySem.W.findIn K (.ref (He.ga K x)) "__init__") (some (some (.ref (He.ma K (He.ga K x) "__init__")))) && decide (PySem.W.typeIn K (.ref (He.ma K (He.ga K x) "__init__")) = some (.type "function")))))))
/-- the class whose __init__ such a one calls -/
def bsB (K : PySem.W.Frag) (x : Str) : Bool := He.eqO (PySem.W.specialIn K (.ref (He.ga K x)) "__getattribute__") (some (some (.builtin "type.__getattribute__"))) && (PySem.W.readsIn K (He.ga K x) (.type "type") && (match PySem.W.findCls K (.ref (He.ga K x)) (.type "type") "__init__" with
  | some (.val (.builtin n)) => n == "ValueError.__init__"
  | _ => false))
def exB (ss : List Sm) (ts : List Tx) (ns : List Nk) (xs : List Str) (ko : List (Str × Str × Bool)) (kt : List (Str × String × Bool)) (ox bs : List Str) (K : PySem.W.Frag) : Bool := ss.all (smB K) && (ts.all (txB K) && (ns.all (nkB K) && (xs.all (xcB K) && (ko.all (koB K) && (kt.all (ktB K) && (ox.all (oxB K) && bs.all (bsB K)))))))
section
variable {ss : List Sm} {ts : List Tx} {ns : List Nk} {xs : List Str} {ko : List (Str × Str × Bool)} {kt : List (Str × String × Bool)} {ox bs : List Str}
theorem exB_sm (h : exB ss ts ns xs ko kt ox bs K = true) {q : Sm} (i : Nat) (e : ss[i]? = some q) : He.ma K (He.ga K q.1) q.2.2 = He.ma K (He.ga K q.2.1) q.2.2 :=
  of_decide_eq_true (List.all_eq_true.mp (He.ba h).1 q (List.mem_of_getElem? e))
theorem exB_tx (h : exB ss ts ns xs ko kt ox bs K = true) {q : Tx} (i : Nat) (e : ts[i]? = some q) : txB K q = true :=
  List.all_eq_true.mp (He.ba (He.ba h).2).1 q (List.mem_of_getElem? e)
theorem exB_nk (h : exB ss ts ns xs ko kt ox bs K = true) {q : Nk} (i : Nat) (e : ns[i]? = some q) : PySem.W.nsIn K (He.ga K q.1) q.2 = some none :=
  He.eqO_ok (List.all_eq_true.mp (He.ba (He.ba (He.ba h).2).2).1 q (List.mem_of_getElem? e))
theorem exB_xc (h : exB ss ts ns xs ko kt ox bs K = true) {q : Str} (i : Nat) (e : xs[i]? = some q) : xcB K q = true :=
  List.all_eq_true.mp (He.ba (He.ba (He.ba (He.ba h).2).2).2).1 q (List.mem_of_getElem? e)
theorem exB_ko (h : exB ss ts ns xs ko kt ox bs K = true) {q : Str × Str × Bool} (i : Nat) (e : ko[i]? = some q) : PySem.W.kitOne K (.ref (He.ga K q.1)) (.ref (He.ga K q.2.1)) = some q.2.2 :=
  of_decide_eq_true (List.all_eq_true.mp (He.ba (He.ba (He.ba (He.ba (He.ba h).2).2).2).2).1 q (List.mem_of_getElem? e))
theorem exB_kt (h : exB ss ts ns xs ko kt ox bs K = true) {q : Str × String × Bool} (i : Nat) (e : kt[i]? = some q) : PySem.W.kitOne K (.ref (He.ga K q.1)) (.type q.2.1) = some q.2.2 :=
  of_decide_eq_true (List.all_eq_true.mp (He.ba (He.ba (He.ba (He.ba (He.ba (He.ba h).2).2).2).2).2).1 q (List.mem_of_getElem? e))
theorem exB_ox (h : exB ss ts ns xs ko kt ox bs K = true) {q : Str} (i : Nat) (e : ox[i]? = some q) : oxB K q = true :=
  List.all_eq_true.mp (He.ba (He.ba (He.ba (He.ba (He.ba (He.ba (He.ba h).2).2).2).2).2).2).1 q (List.mem_of_getElem? e)
theorem exB_bs (h : exB ss ts ns xs ko kt ox bs K = true) {q : Str} (i : Nat) (e : bs[i]? = some q) : bsB K q = true :=
  List.all_eq_true.mp (He.ba (He.ba (He.ba (He.ba (He.ba (He.ba (He.ba h).2).2).2).2).2).2).2 q (List.mem_of_getElem? e)
end
end
/-! ### the hook, with the interpreter's own statics in the fragment -/
section
variable {n : Nat} {fa : List He.Fa} {fn : List He.DefD} {ts : List He.Tab} {ex : PySem.W.Frag → Bool}
def asY (n : Nat) (g : Addr → Option Obj) : List Addr := He.asD g n ++ [cStatics]
def obsY (n : Nat) (fa : List He.Fa) (fn : List He.DefD) (ts : List He.Tab) (ex : PySem.W.Frag → Bool) (g : Addr → Option Obj) : He.AlX :=
  (He.obsT fa fn ts (He.frT g (asY n g)), ex (He.frT g (asY n g)))
theorem saysY {w : World} {h : Heap} (e : obsY n fa fn ts ex h.get? = He.valX fn ts w) : He.SaysX fa fn ts [] ex w h (He.frT h.get? (asY n h.get?)) where
  t := congrArg (fun z : He.AlX => z.1) e
  more := congrArg (fun z : He.AlX => z.2) e
  hd := fun _ hp => nomatch hp
  out := fun _ hp => nomatch hp
  empty := fun _ hp => nomatch hp
def hookY (n : Nat) (fa : List He.Fa) (fn : List He.DefD) (ts : List He.Tab) (ex : PySem.W.Frag → Bool) : PySem.W.Hook where
  α := He.AlX
  obs := fun s => obsY n fa fn ts ex s.heap.get?
  val := fun w => He.valX fn ts w
  says := fun w h => ∃ K : PySem.W.Frag, K.In h ∧ He.SaysX fa fn ts [] ex w h K
  of := fun _ _ e => ⟨_, He.frT_in, saysY e⟩
  keeps := fun _ _ _ ⟨K, hK, c⟩ k => ⟨K, PySem.W.Frag.In.keeps hK k, ⟨c.t, c.more, c.hd, c.out, fun _ hp => nomatch hp⟩⟩
theorem obsY_eq {g : Addr → Option Obj} {s : Shared} (h : ∀ a, g a = s.heap.get? a) : obsY n fa fn ts ex g = (hookY n fa fn ts ex).obs s := by
  cases (funext h : g = s.heap.get?)
  rfl
end
end Ev
set_option maxHeartbeats 2000000
namespace Ev.K17
open PySem PySem.Spec PyProof.Rows L2 Ev
def top (i : Nat) : Stmt := PySem.Challenge.pw_letterall_k17_the_first_bad_step.main.body.getD i (.Pass ⟨0, 0, 0, 0⟩)
abbrev st__law_cell_at : Stmt := top 59
abbrev st__law_digit : Stmt := top 60
abbrev st__law_hands : Stmt := top 65
abbrev st__law_on_names : Stmt := top 63
abbrev st__law_number : Stmt := top 62
abbrev st__law_lines : Stmt := top 61
abbrev st__law_step : Stmt := top 64
abbrev st__law_program : Stmt := top 66
abbrev st__law_spots : Stmt := top 67
abbrev st__law_bad : Stmt := top 68
abbrev st_is_tuple_of : Stmt := top 52
abbrev st_is_whole : Stmt := top 34
abbrev st_is_from : Stmt := top 35
abbrev st_is_rising : Stmt := top 53
abbrev st_is_whole_program : Stmt := top 54
abbrev st_hands_of : Stmt := top 57
abbrev st_counts_of : Stmt := top 55
abbrev st_fits_line : Stmt := top 38
abbrev st_fits_lines : Stmt := top 39
abbrev st_fits : Stmt := top 40
abbrev st_sure : Stmt := top 41
abbrev st_Step___init__ : Stmt := inClass (top 6) 0
abbrev st_number_step : Stmt := top 42
abbrev st_name_step : Stmt := top 43
abbrev st_letter_step : Stmt := top 44
abbrev st_step_of : Stmt := top 45
abbrev st_look_over : Stmt := top 56
abbrev st_law : Stmt := top 69
abbrev st_NoProgram___init__ : Stmt := inClass (top 4) 0
def d_NoProgram___init__ : He.DefD := ⟨("NoProgram", some "__init__"), "__init__", "NoProgram.__init__", defArgs st_NoProgram___init__, defBody st_NoProgram___init__, defScope st_NoProgram___init__, [], []⟩
def d__law_cell_at : He.DefD := ⟨("_law_cell_at", none), "_law_cell_at", "_law_cell_at", defArgs st__law_cell_at, defBody st__law_cell_at, defScope st__law_cell_at, [], []⟩
def d__law_digit : He.DefD := ⟨("_law_digit", none), "_law_digit", "_law_digit", defArgs st__law_digit, defBody st__law_digit, defScope st__law_digit, [], []⟩
def d__law_hands : He.DefD := ⟨("_law_hands", none), "_law_hands", "_law_hands", defArgs st__law_hands, defBody st__law_hands, defScope st__law_hands, [], []⟩
def d__law_on_names : He.DefD := ⟨("_law_on_names", none), "_law_on_names", "_law_on_names", defArgs st__law_on_names, defBody st__law_on_names, defScope st__law_on_names, [], []⟩
def d__law_number : He.DefD := ⟨("_law_number", none), "_law_number", "_law_number", defArgs st__law_number, defBody st__law_number, defScope st__law_number, [], []⟩
def d__law_lines : He.DefD := ⟨("_law_lines", none), "_law_lines", "_law_lines", defArgs st__law_lines, defBody st__law_lines, defScope st__law_lines, [], []⟩
def d__law_step : He.DefD := ⟨("_law_step", none), "_law_step", "_law_step", defArgs st__law_step, defBody st__law_step, defScope st__law_step, [], []⟩
def d__law_program : He.DefD := ⟨("_law_program", none), "_law_program", "_law_program", defArgs st__law_program, defBody st__law_program, defScope st__law_program, [], []⟩
def d__law_spots : He.DefD := ⟨("_law_spots", none), "_law_spots", "_law_spots", defArgs st__law_spots, defBody st__law_spots, defScope st__law_spots, [], []⟩
def d__law_bad : He.DefD := ⟨("_law_bad", none), "_law_bad", "_law_bad", defArgs st__law_bad, defBody st__law_bad, defScope st__law_bad, [], []⟩
def d_is_tuple_of : He.DefD := ⟨("is_tuple_of", none), "is_tuple_of", "is_tuple_of", defArgs st_is_tuple_of, defBody st_is_tuple_of, defScope st_is_tuple_of, [], []⟩
def d_is_whole : He.DefD := ⟨("is_whole", none), "is_whole", "is_whole", defArgs st_is_whole, defBody st_is_whole, defScope st_is_whole, [], []⟩
def d_is_from : He.DefD := ⟨("is_from", none), "is_from", "is_from", defArgs st_is_from, defBody st_is_from, defScope st_is_from, [], []⟩
def d_is_rising : He.DefD := ⟨("is_rising", none), "is_rising", "is_rising", defArgs st_is_rising, defBody st_is_rising, defScope st_is_rising, [], []⟩
def d_is_whole_program : He.DefD := ⟨("is_whole_program", none), "is_whole_program", "is_whole_program", defArgs st_is_whole_program, defBody st_is_whole_program, defScope st_is_whole_program, [], []⟩
def d_hands_of : He.DefD := ⟨("hands_of", none), "hands_of", "hands_of", defArgs st_hands_of, defBody st_hands_of, defScope st_hands_of, [], []⟩
def d_counts_of : He.DefD := ⟨("counts_of", none), "counts_of", "counts_of", defArgs st_counts_of, defBody st_counts_of, defScope st_counts_of, [], []⟩
def d_fits_line : He.DefD := ⟨("fits_line", none), "fits_line", "fits_line", defArgs st_fits_line, defBody st_fits_line, defScope st_fits_line, [], []⟩
def d_fits_lines : He.DefD := ⟨("fits_lines", none), "fits_lines", "fits_lines", defArgs st_fits_lines, defBody st_fits_lines, defScope st_fits_lines, [], []⟩
def d_fits : He.DefD := ⟨("fits", none), "fits", "fits", defArgs st_fits, defBody st_fits, defScope st_fits, [], []⟩
def d_sure : He.DefD := ⟨("sure", none), "sure", "sure", defArgs st_sure, defBody st_sure, defScope st_sure, [], []⟩
def d_Step___init__ : He.DefD := ⟨("Step", some "__init__"), "__init__", "Step.__init__", defArgs st_Step___init__, defBody st_Step___init__, defScope st_Step___init__, [], []⟩
def d_number_step : He.DefD := ⟨("number_step", none), "number_step", "number_step", defArgs st_number_step, defBody st_number_step, defScope st_number_step, [], []⟩
def d_name_step : He.DefD := ⟨("name_step", none), "name_step", "name_step", defArgs st_name_step, defBody st_name_step, defScope st_name_step, [], []⟩
def d_letter_step : He.DefD := ⟨("letter_step", none), "letter_step", "letter_step", defArgs st_letter_step, defBody st_letter_step, defScope st_letter_step, [], []⟩
def d_step_of : He.DefD := ⟨("step_of", none), "step_of", "step_of", defArgs st_step_of, defBody st_step_of, defScope st_step_of, [], []⟩
def d_look_over : He.DefD := ⟨("look_over", none), "look_over", "look_over", defArgs st_look_over, defBody st_look_over, defScope st_look_over, [], []⟩
def d_law : He.DefD := ⟨("law", none), "law", "law", defArgs st_law, defBody st_law, defScope st_law, [], []⟩
def fns : List He.DefD := ([d__law_cell_at, d__law_digit, d__law_hands, d__law_on_names, d__law_number, d__law_lines, d__law_step, d__law_program, d__law_spots, d__law_bad, d_is_tuple_of, d_is_whole, d_is_from, d_is_rising, d_is_whole_program, d_hands_of, d_counts_of, d_fits_line, d_fits_lines, d_fits, d_sure, d_Step___init__, d_number_step, d_name_step, d_letter_step, d_step_of, d_look_over, d_law, d_NoProgram___init__] : List He.DefD)
def fcsA : List He.Fa := ([.glo "law", .glo "Send", .glo "Take", .glo "Bell", .glo "Put", .glo "Copy", .glo "Raise", .glo "Sum", .glo "Choose", .glo "Go", .glo "Less", .glo "Before", .glo "Me", .glo "Only", .glo "Pick", .glo "Alike", .glo "All", .glo "Empty", .glo "Join", .glo "Out", .glo "Many", .glo "LetterError", .glo "NoProgram", .glo "NoStep", .cls "Send", .cls "Take", .cls "Bell", .cls "Put", .cls "Copy", .cls "Raise"] : List He.Fa) ++ ([.cls "Sum", .cls "Choose", .cls "Go", .cls "Less", .cls "Before", .cls "Me", .cls "Only", .cls "Pick", .cls "Alike", .cls "All", .cls "Empty", .cls "Join", .cls "Out", .cls "Many", .free "all", .free "bool", .free "enumerate", .free "int", .free "isinstance", .free "len", .free "list", .free "min", .free "range", .free "set", .free "sorted", .free "str", .free "tuple", .free "zip", .glo "FORMS", .int "MOST_HANDS" 6] : List He.Fa) ++ ([.int "MOST_LEFT" 5, .int "MOST_ROLES" 6, .int "MOST_ROOM" 10, .int "MOST_STEPS" 60, .exc "NoStep", .exm "NoStep" "NoProgram" false, .exm "NoProgram" "NoProgram" true, .exm "NoStep" "NoStep" true] : List He.Fa)
def fcsB : List He.Fa := ([.exm "NoProgram" "NoStep" false, .noat "NoProgram" "place", .noat "NoProgram" "role", .noat "Many" "form", .noat "Out" "form", .noat "Join" "form", .noat "Empty" "form", .noat "All" "form", .noat "Alike" "form", .noat "Pick" "form", .noat "Only" "form", .noat "Me" "form", .noat "Before" "form", .noat "Less" "form", .noat "Go" "form", .noat "Choose" "form", .noat "Sum" "form", .noat "Raise" "form", .noat "Copy" "form", .noat "Put" "form", .noat "Bell" "form", .noat "Take" "form", .noat "Send" "form", .glo "_law_cell_at", .glo "_law_digit", .glo "_law_hands", .glo "_law_on_names", .glo "_law_number", .glo "_law_lines", .glo "_law_step"] : List He.Fa) ++ ([.glo "_law_program", .glo "_law_spots", .glo "_law_bad", .glo "is_tuple_of", .glo "is_whole", .glo "is_from", .glo "is_rising", .glo "is_whole_program", .glo "hands_of", .glo "counts_of", .glo "fits_line", .glo "fits_lines", .glo "fits", .glo "sure", .mkr "Put", .mkr "Copy", .mkr "Raise", .mkr "Sum", .mkr "Choose", .mkr "Less", .mkr "Before", .mkr "Go", .glo "number_step", .mkr "Me", .mkr "Only", .mkr "Pick", .mkr "Alike", .mkr "All", .mkr "Empty", .mkr "Join"] : List He.Fa) ++ ([.mkr "Out", .mkr "Many", .glo "name_step", .mkr "Send", .mkr "Take", .mkr "Bell", .glo "letter_step", .glo "step_of", .glo "look_over"] : List He.Fa)
def fcs : List He.Fa := fcsA ++ fcsB
def tbs : List He.Tab := ([((fun K => He.ga K "FORMS"), ["put", "copy", "raise", "sum", "choose", "less", "before", "go", "me", "only", "pick", "alike", "all", "empty", "join", "out", "many", "send", "take", "bell"])] : List He.Tab)
def sms : List Sm := ([("Put", "Step", "__init__"), ("Copy", "Step", "__init__"), ("Raise", "Step", "__init__"), ("Sum", "Step", "__init__"), ("Choose", "Step", "__init__"), ("Less", "Step", "__init__"), ("Before", "Step", "__init__"), ("Go", "Step", "__init__"), ("Me", "Step", "__init__"), ("Only", "Step", "__init__"), ("Pick", "Step", "__init__"), ("Alike", "Step", "__init__"), ("All", "Step", "__init__"), ("Empty", "Step", "__init__"), ("Join", "Step", "__init__"), ("Out", "Step", "__init__"), ("Many", "Step", "__init__"), ("Send", "Step", "__init__"), ("Take", "Step", "__init__"), ("Bell", "Step", "__init__")] : List Sm)
def txs : List Tx := ([("FORMS", "bell", []), ("FORMS", "take", ["from", "lines"]), ("FORMS", "send", ["box", "kind", "box", "box"]), ("FORMS", "many", ["set", "crowd", "place"]), ("FORMS", "out", ["box", "set", "place"]), ("FORMS", "join", ["set", "box"]), ("FORMS", "empty", ["set"]), ("FORMS", "all", ["set", "role"]), ("FORMS", "alike", ["box", "box", "place"]), ("FORMS", "pick", ["box", "role"]), ("FORMS", "only", ["box", "single"]), ("FORMS", "me", ["box"]), ("FORMS", "go", ["place"]), ("FORMS", "before", ["box", "box", "place"]), ("FORMS", "less", ["box", "number", "place"]), ("FORMS", "choose", ["box", "amount"]), ("FORMS", "sum", ["box", "box"]), ("FORMS", "raise", ["box", "number"]), ("FORMS", "copy", ["box", "box"]), ("FORMS", "put", ["box", "number"])] : List Tx)
def nks : List Nk := []
def xcs : List Str := (["NoProgram"] : List Str)
def kos : List (Str × Str × Bool) := []
def kts : List (Str × String × Bool) := []
def oxs : List Str := (["NoProgram"] : List Str)
def bss : List Str := (["LetterError"] : List Str)
abbrev HR : PySem.W.OpenRow := PySem.W.OpenLaw.row PySem.Challenge.rw_letterall_k17_the_first_bad_step
abbrev hk : PySem.W.Hook := hookY 4 fcs fns tbs (exB sms txs nks xcs kos kts oxs bss)
def ob (s : PySem.W.SharedT) : He.AlX := obsY 4 fcs fns tbs (exB sms txs nks xcs kos kts oxs bss) (HandSHeadRun.getT s)
theorem ob_eq (s : PySem.W.SharedT) : ob s = hk.obs s.abs := obsY_eq (HandSHeadRun.getT_eq s)
def loose : List Str := (["_wall", "LetterError", "NoStep", "NoProgram", "Step", "Send", "Take", "Bell", "set_of", "Put", "Copy", "Raise", "Sum", "Choose", "Go", "Fork", "Less", "Before", "Me", "Only", "Pick", "Alike", "All", "Empty", "Join", "Out", "Many", "is_whole", "is_from", "FORMS"] : List Str) ++ (["fits_line", "fits_lines", "fits", "sure", "number_step", "name_step", "letter_step", "step_of", "MOST_ROOM", "MOST_LEFT", "MOST_ROLES", "MOST_STEPS", "MOST_HANDS", "is_tuple_of", "is_rising", "is_whole_program", "counts_of", "look_over", "hands_of", "_law_cell_at", "_law_digit", "_law_lines", "_law_number", "_law_on_names", "_law_step", "_law_hands", "_law_program", "_law_spots", "_law_bad"] : List Str)
open PySem.W PySem.Calls PyProof.Rows
noncomputable def eR (w : World) (os : OsState) : Option PySem.W.SharedT := HandSHeadRun.endF (HandSHeadRun.stepQ (HandSHeadRun.denQ HandSHeadRun.tabQ) HR.prog w) 12000 HR.prog w os
theorem runF1 (w : World) (os : OsState) : (eR (w.withFollow "special-get-raises" false) os).map (fun s => HandSHeadRun.looksF HR.prog (boot_heap (w.withFollow "special-get-raises" false).params) s.abs) = some true := by kernel_rfl
theorem runF2 (w : World) (os : OsState) : (eR (w.withFollow "special-get-raises" false) os).map (fun s => HandSHeadRun.seenQ (PySem.W.view HR.prog [69]) loose (importedModules HR.prog.main.body) (fun s => PySem.W.xlAt (PySem.W.view HR.prog [69]) [] s && PySem.W.recOk HR.toRowW.records s) s.abs) = some (PySem.W.openGood (PySem.W.view HR.prog [69]) loose) := by kernel_rfl
theorem runF3a (w : World) (os : OsState) : (eR (w.withFollow "special-get-raises" false) os).map (fun s => (ob s).1.1.1) = some (hk.val (w.withFollow "special-get-raises" false)).1.1.1 := by kernel_rfl
theorem runF3b (w : World) (os : OsState) : (eR (w.withFollow "special-get-raises" false) os).map (fun s => ((ob s).1.1.2, (ob s).1.2, (ob s).2)) = some ((hk.val (w.withFollow "special-get-raises" false)).1.1.2, (hk.val (w.withFollow "special-get-raises" false)).1.2, (hk.val (w.withFollow "special-get-raises" false)).2) := by kernel_rfl
theorem runF3 (w : World) (os : OsState) : (eR (w.withFollow "special-get-raises" false) os).map ob = some (hk.val (w.withFollow "special-get-raises" false)) := run_join4 (runF3a w os) (runF3b w os)
theorem runF (w : World) : HandSHeadRun.RunEq HR (PySem.W.view HR.prog [69]) hk ob 12000 loose (w.withFollow "special-get-raises" false) := by
  intro os
  have h := run_join (runF1 w os) (runF2 w os) (runF3 w os)
  exact h
theorem runT1 (w : World) (os : OsState) : (eR (w.withFollow "special-get-raises" true) os).map (fun s => HandSHeadRun.looksF HR.prog (boot_heap (w.withFollow "special-get-raises" true).params) s.abs) = some true := by kernel_rfl
theorem runT2 (w : World) (os : OsState) : (eR (w.withFollow "special-get-raises" true) os).map (fun s => HandSHeadRun.seenQ (PySem.W.view HR.prog [69]) loose (importedModules HR.prog.main.body) (fun s => PySem.W.xlAt (PySem.W.view HR.prog [69]) [] s && PySem.W.recOk HR.toRowW.records s) s.abs) = some (PySem.W.openGood (PySem.W.view HR.prog [69]) loose) := by kernel_rfl
theorem runT3a (w : World) (os : OsState) : (eR (w.withFollow "special-get-raises" true) os).map (fun s => (ob s).1.1.1) = some (hk.val (w.withFollow "special-get-raises" true)).1.1.1 := by kernel_rfl
theorem runT3b (w : World) (os : OsState) : (eR (w.withFollow "special-get-raises" true) os).map (fun s => ((ob s).1.1.2, (ob s).1.2, (ob s).2)) = some ((hk.val (w.withFollow "special-get-raises" true)).1.1.2, (hk.val (w.withFollow "special-get-raises" true)).1.2, (hk.val (w.withFollow "special-get-raises" true)).2) := by kernel_rfl
theorem runT3 (w : World) (os : OsState) : (eR (w.withFollow "special-get-raises" true) os).map ob = some (hk.val (w.withFollow "special-get-raises" true)) := run_join4 (runT3a w os) (runT3b w os)
theorem runT (w : World) : HandSHeadRun.RunEq HR (PySem.W.view HR.prog [69]) hk ob 12000 loose (w.withFollow "special-get-raises" true) := by
  intro os
  have h := run_join (runT1 w os) (runT2 w os) (runT3 w os)
  exact h
theorem run (w : World) : HandSHeadRun.RunEq HR (PySem.W.view HR.prog [69]) hk ob 12000 loose w := PySem.W.byRow2 "special-get-raises" (P := fun w => HandSHeadRun.RunEq HR (PySem.W.view HR.prog [69]) hk ob 12000 loose w) runF runT w
end Ev.K17
/-! Ev0: sorted, of a list of tuples of ints, any number of them. -/
namespace Ev
open PySem PySem.Spec PyProof.Rows L2
/-- a tuple of these ints -/
def IntT (h : Heap) (v : Value) (ns : List Int) : Prop := ∃ a o its n, v = .ref a ∧ h.get? a = some o ∧ o.cls = .type "tuple" ∧ o.data = .seq its n ∧ IntsAre its.toList ns
theorem IntT.keeps {h h' : Heap} {v : Value} {ns : List Int} (p : IntT h v ns) (k : ∀ b o, h.get? b = some o → o.cls = .type "tuple" → h'.get? b = some o) : IntT h' v ns := by
  obtain ⟨a, o, t, n, e, ho, hc, hd, hi⟩ := p
  exact ⟨a, o, t, n, e, k _ _ ho hc, hc, hd, hi⟩
def lexf (fin : Bool) : List Int → List Int → Bool
  | x :: xs, y :: ys => if x = y then lexf fin xs ys else decide (x < y)
  | _, _ => fin
theorem lexf_eq : ∀ {ns ms : List Int} {a b : Nat}, ns.length + b = ms.length + a → lexf (decide (a < b)) ns ms = HT.lexLt ns ms
  | [], [], a, b, h => by
    unfold lexf HT.lexLt
    exact decide_eq_false (by simp at h; omega)
  | [], y :: ys, a, b, h => by
    unfold lexf HT.lexLt
    exact decide_eq_true (by simp at h; omega)
  | x :: xs, [], a, b, h => by
    unfold lexf HT.lexLt
    exact decide_eq_false (by simp at h; omega)
  | x :: xs, y :: ys, a, b, h => by
    unfold lexf HT.lexLt
    rw [lexf_eq (by simp at h; omega)]
section
variable {prog : Program} {w : World} {A : Around} {s : Shared}
theorem lex_kat {fin : Bool} {R : Bool} : ∀ {vs ws : List Value} {ns ms : List Int} {i : Nat}, IntsAre vs ns → IntsAre ws ms → R = lexf fin ns ms → PySem.W.KatLex prog w A true fin (fun r s' => s' = s ∧ r = R) (vs.zip ws) i s := by
  intro vs ws ns ms i h1
  induction h1 generalizing ws ms i with
  | nil => intro h2 e; exact PySem.W.kat_nil ⟨rfl, by rw [e]; unfold lexf; rfl⟩
  | cons x t h1 ih =>
    intro h2 e
    cases h2 with
    | nil => exact PySem.W.kat_nil ⟨rfl, by rw [e]; unfold lexf; rfl⟩
    | cons y u h2 =>
      rw [List.zip_cons_cons]
      unfold lexf at e
      refine PySem.W.kat_cons (SeqAt.EqAt.int_int x t y u prog w _ _ ?_)
      refine PySem.W.kat_go (fun e1 => ?_) (fun e1 => ?_)
      · have ex : x = y := by simpa using e1
        rw [if_pos ex] at e
        exact PySem.W.kat_yes (ih h2 e)
      · have ex : ¬ x = y := by simpa using e1
        rw [if_neg ex] at e
        refine PySem.W.kat_no ?_
        cases hb : (true && i == 0) with
        | true => exact oneLt_int ⟨rfl, e.symm⟩
        | false => exact PySem.W.kat_one _ _ (PyProof.Rows.lt_int (Q := PySem.W.BoolBack fun r s' => s' = s ∧ r = R) (show s = s ∧ decide (x < y) = R from ⟨rfl, e.symm⟩))
theorem lex_asym : ∀ {a b : List Int}, HT.lexLt a b = true → HT.lexLt b a = false
  | [], [], h => by unfold HT.lexLt at h; cases h
  | [], _ :: _, _ => by unfold HT.lexLt; rfl
  | _ :: _, [], h => by unfold HT.lexLt at h; cases h
  | x :: xs, y :: ys, h => by
    rw [HT.lexLt_cons] at h ⊢
    by_cases e : x = y
    · rw [if_pos e] at h; rw [if_pos e.symm]; exact lex_asym h
    · rw [if_neg e, decide_eq_true_eq] at h
      rw [if_neg (Ne.symm e)]
      exact decide_eq_false (by omega)
theorem lex_tr : ∀ {a b c : List Int}, HT.lexLt b a = false → HT.lexLt c b = false → HT.lexLt c a = false
  | [], _, [], _, _ => by unfold HT.lexLt; rfl
  | [], [], _ :: _, _, h => h
  | [], y :: ys, z :: zs, _, _ => by unfold HT.lexLt; rfl
  | x :: xs, [], _, h, _ => by rw [HT.lexLt_nil_cons] at h; cases h
  | x :: xs, y :: ys, [], _, h => by rw [HT.lexLt_nil_cons] at h; cases h
  | x :: xs, y :: ys, z :: zs, h1, h2 => by
    rw [HT.lexLt_cons] at h1 h2 ⊢
    by_cases e1 : y = x
    · rw [if_pos e1] at h1
      by_cases e2 : z = y
      · rw [if_pos e2] at h2; rw [if_pos (e2.trans e1)]; exact lex_tr h1 h2
      · rw [if_neg e2, decide_eq_false_iff_not] at h2
        rw [if_neg (fun e => e2 (e.trans e1.symm))]
        exact decide_eq_false (by omega)
    · rw [if_neg e1, decide_eq_false_iff_not] at h1
      by_cases e2 : z = y
      · rw [if_neg (fun e => e1 (e2.symm.trans e))]
        exact decide_eq_false (by omega)
      · rw [if_neg e2, decide_eq_false_iff_not] at h2
        by_cases e3 : z = x
        · omega
        · rw [if_neg e3]; exact decide_eq_false (by omega)
theorem lex_tot : ∀ {a b : List Int}, HT.lexLt a b = false → HT.lexLt b a = false → a = b
  | [], [], _, _ => rfl
  | [], y :: ys, h, _ => by rw [HT.lexLt_nil_cons] at h; cases h
  | x :: xs, [], _, h => by rw [HT.lexLt_nil_cons] at h; cases h
  | x :: xs, y :: ys, h1, h2 => by
    rw [HT.lexLt_cons] at h1 h2
    by_cases e : x = y
    · rw [if_pos e] at h1; rw [if_pos e.symm] at h2; rw [e, lex_tot h1 h2]
    · rw [if_neg e, decide_eq_false_iff_not] at h1
      rw [if_neg (Ne.symm e), decide_eq_false_iff_not] at h2
      omega
theorem swo_lexL (k : Value → List Int) : SrtO.Swo fun v u => HT.lexLt (k v) (k u) := ⟨fun _ _ h => lex_asym h, fun _ _ _ h1 h2 => lex_tr h1 h2⟩
theorem ti_cmp {vs : List Value} {k : Value → List Int} (hp : ∀ v ∈ vs, IntT s.heap v (k v)) : SrtO.Cmp prog w A s (tuples' true) (fun p => p.1 ∈ vs) (SrtO.lt2 fun v u => HT.lexLt (k v) (k u)) := by
  intro p q hm hm'
  obtain ⟨a, o, t, n, e, ho, hc, hd, hi⟩ := hp _ hm
  obtain ⟨a', o', t', n', e', ho', hc', hd', hi'⟩ := hp _ hm'
  show wpAny (model prog w) A (keyLt' (tuples' true) p.1 q.1) (fun r s' => s' = s ∧ r = HT.lexLt (k p.1) (k q.1)) (fun _ _ => False) s
  have l1 : t.size = (k p.1).length := by have := hi.length; simpa using this
  have l2 : t'.size = (k q.1).length := by have := hi'.length; simpa using this
  rw [e, e']
  refine PySem.W.kat_lt ho hd ho' hd' (lex_kat hi hi' ?_)
  rw [lexf_eq (by omega), ← e, ← e']
theorem firsts_ti {h : Heap} : ∀ {vs : List Value}, (∀ v ∈ vs, ∃ n ns, IntT h v (n :: ns)) → ∃ fs : List Value, PySem.W.KatTups h vs fs ∧ fs.length = vs.length ∧ ∀ f ∈ fs, ∃ x t, f = Value.int x t
  | [], _ => ⟨[], PySem.W.KatTups.nil, rfl, fun _ hm => by simp at hm⟩
  | v :: vs, hp => by
    obtain ⟨fs, h1, h2, h3⟩ := firsts_ti (vs := vs) fun u hm => hp u (List.mem_cons_of_mem _ hm)
    obtain ⟨x, ns, a, o, its, n, e, ho, hc, hd, hi⟩ := hp v (List.mem_cons_self ..)
    subst e
    obtain ⟨t, r, hr⟩ : ∃ t r, its.toList = .int x t :: r := by
      generalize its.toList = l at hi
      cases hi with
      | cons _ t _ => exact ⟨t, _, rfl⟩
    have h0 : its[0]? = some (.int x t) := by
      rw [← Array.getElem?_toList, hr]; rfl
    refine ⟨.int x t :: fs, PySem.W.KatTups.cons ho hc hd h0 h1, by rw [List.length_cons, List.length_cons, h2], fun f hm => ?_⟩
    rcases List.mem_cons.mp hm with rfl | hm
    · exact ⟨x, t, rfl⟩
    · exact h3 f hm
theorem ti_sortable {a : Addr} {vs : List Value} {k : Value → List Int} (h0 : 0 < vs.length) (hp : ∀ v ∈ vs, IntT s.heap v (k v)) (hk : ∀ v ∈ vs, k v ≠ []) (ha : ∀ o, s.heap.get? a = some o → o.cls ≠ .type "tuple") : SrtO.SortableO prog w A s a vs fun v u => HT.lexLt (k v) (k u) := by
  intro h' keep
  have hp' : ∀ v ∈ vs, IntT h' v (k v) := fun v hm => (hp v hm).keeps fun b o e c => keep b o (fun z => by subst z; exact ha o e c) e
  obtain ⟨fs, h1, h2, h3⟩ := firsts_ti (h := h') (vs := vs) fun v hm => by
    obtain ⟨n, ns, e⟩ := List.exists_cons_of_ne_nil (hk v hm)
    exact ⟨n, ns, by rw [← e]; exact hp' v hm⟩
  refine ⟨tuples' true, fun Q E hq => ?_, ti_cmp hp'⟩
  refine PySem.W.kat_kind (T := .type "int") h1 (by omega) (fun f hm => ?_) (by rfl) ?_
  · obtain ⟨x, t, rfl⟩ := h3 f hm
    exact PySem.W.Looks.now
  · have e : (Value.type "int" != Value.type "tuple") = true := by first | decide +kernel | rfl | decide
    rw [e]
    exact hq
end
/-- a reference to a tuple of these ints -/
def TupAt (K : PySem.W.Frag) (H : Hp) (x : V) (ns : List Int) : Prop := ∃ t, x = .ref t ∧ SqT K H t (ns.map V.int)
/-- sorted(xs), tuples of ints, none empty, any number of them -/
def rSortLx (K : PySem.W.Frag) : List V → Hp → VK → Prop := fun vs H Q => ∃ (a : Addr) (xs : List V), vs = [V.ref a] ∧ SqL K H a xs ∧ (∀ x ∈ xs, ∃ ns, TupAt K H x ns ∧ ns ≠ []) ∧
  ∀ (ys : List V) (p : Addr), ys.Perm xs → ys.Pairwise (fun x y => ∀ n m, TupAt K H x n → TupAt K H y m → HT.lexLt m n = false) → H p = none → Q (.ref p) (upd H p (.lst ys))
def bkv : Value → V
  | .ref a => .ref a
  | _ => .non
theorem bkv_of : ∀ {xs : List V} {us : List Value}, Vals xs us → (∀ x ∈ xs, ∃ a, x = V.ref a) → xs = us.map bkv ∧ ∀ u ∈ us, ∃ a, u = Value.ref a
  | _, _, .nil, _ => ⟨rfl, fun u hu => absurd hu (by simp)⟩
  | x :: xs, _ :: us, .cons r t, h => by
    obtain ⟨a, e⟩ := h x List.mem_cons_self
    subst e
    cases r
    obtain ⟨h1, h2⟩ := bkv_of t fun y hy => h y (List.mem_cons_of_mem _ hy)
    refine ⟨by rw [List.map_cons, ← h1] <;> rfl, fun u hu => ?_⟩
    rcases List.mem_cons.mp hu with e | hu
    · exact ⟨a, e⟩
    · exact h2 u hu
theorem vals_bkv : ∀ {us : List Value}, (∀ u ∈ us, ∃ a, u = Value.ref a) → Vals (us.map bkv) us
  | [], _ => .nil
  | u :: us, h => by
    obtain ⟨a, e⟩ := h u List.mem_cons_self
    subst e
    exact .cons (show RelV (.ref a) (.ref a) from rfl) (vals_bkv fun y hy => h y (List.mem_cons_of_mem _ hy))
theorem ints_inj : ∀ {ns ms : List Int}, ns.map V.int = ms.map V.int → ns = ms
  | [], [], _ => rfl
  | [], _ :: _, h => by cases h
  | _ :: _, [], h => by cases h
  | x :: xs, y :: ys, h => by
    rw [List.map_cons, List.map_cons] at h
    injection h with h1 h2
    injection h1 with h1
    rw [h1, ints_inj h2]
open Classical in
theorem cr_sortLx {X : Cx} : CallR X (.builtin "sorted") (rSortLx X.K) := by
  intro pins s σ H vs us Q I r h
  obtain ⟨a, xs, rfl, hs, hx, q⟩ := h
  obtain ⟨its, rv, hl, hz⟩ := I.list hs
  rw [Vals.ref1 r]
  obtain ⟨e1, e2⟩ := bkv_of rv fun x m => by obtain ⟨ns, ⟨t, e, _⟩, _⟩ := hx x m; exact ⟨t, e⟩
  have hzi : its.length ≤ sizeLine := by rw [← rv.length]; exact hz
  obtain ⟨key, hkey⟩ : ∃ key : V → List Int, ∀ x ∈ xs, TupAt X.K H x (key x) ∧ key x ≠ [] := ⟨fun x => if h : ∃ ns, TupAt X.K H x ns ∧ ns ≠ [] then Classical.choose h else [], fun x m => by
    have hh := hx x m
    dsimp only
    rw [dif_pos hh]
    exact Classical.choose_spec hh⟩
  have huniq : ∀ x n m, TupAt X.K H x n → TupAt X.K H x m → n = m := fun x n m ⟨t, e, h1⟩ ⟨t', e', h2⟩ => by
    subst e
    cases e'
    exact ints_inj (I.tuple_inj h1 h2)
  have hp : ∀ v ∈ its, IntT s.heap v (key (bkv v)) ∧ key (bkv v) ≠ [] := fun v hv => by
    obtain ⟨⟨t, et, hq⟩, hne⟩ := hkey (bkv v) (by rw [e1]; exact List.mem_map_of_mem hv)
    obtain ⟨b, eb⟩ := e2 v hv
    subst eb
    have et' : V.ref b = V.ref t := et
    injection et' with et'
    subst et'
    obtain ⟨its2, rv2, ⟨o, ho, hc, n, hd⟩, _⟩ := I.tuple hq
    exact ⟨⟨b, o, its2.toArray, n, rfl, ho, hc, hd, by simpa using rv2.ints⟩, hne⟩
  refine SrtO.sorted_ord (ltv := fun v u => HT.lexLt (key (bkv v)) (key (bkv u))) (swo_lexL fun v => key (bkv v)) hl.isList hzi (fun h2 h₁ a' ha' kk => ?_) fun out h1 h2 => ?_
  · refine ti_sortable (k := fun v => key (bkv v)) (by omega) (fun v hm => (hp v hm).1.keeps fun b o e _ => (kk b o e).2) (fun v hm => (hp v hm).2) fun o e => ?_
    have e' : some o = some (seqObj "list" its.toArray 0) := e.symm.trans ha'
    cases e'
    intro c
    exact absurd (Value.type.inj c) (by decide)
  · obtain ⟨ep, he'⟩ := PyProof.Rows.sortedAll_at s.heap its out.toArray
    have hperm := h2.perm
    have hrefs : ∀ u ∈ out, ∃ a, u = Value.ref a := fun u hu => e2 u (hperm.mem_iff.mp hu)
    have hlen : (out.map bkv).length ≤ sizeLine := by rw [List.length_map, hperm.length_eq]; exact hzi
    have hmem : ∀ u ∈ out, bkv u ∈ xs := fun u hu => by rw [e1]; exact List.mem_map_of_mem (hperm.mem_iff.mp hu)
    refine ⟨.ref _, upd H (s.heap.objs.size + 1) (.lst (out.map bkv)), I.laid (t' := s.toks) (fun _ _ => PyProof.Rows.sortedAll_old) (Nat.le_succ _) ⟨hlen, out, ep, vals_bkv hrefs, he'⟩, rfl, q _ _ ?_ ?_ (I.hok.fresh (Nat.le_succ _))⟩
    · rw [e1]; exact hperm.map bkv
    · rw [List.pairwise_map]
      refine List.Pairwise.imp_of_mem (fun {u v} hu hv h n m hn hm => ?_) h1
      rw [huniq _ _ _ hn (hkey _ (hmem u hu)).1, huniq _ _ _ hm (hkey _ (hmem v hv)).1]
      exact h
end Ev
/-! Ev1: data, stores, how they stand in the abstract heap. -/
namespace Ev
open PySem PySem.Spec PyProof.Rows L2

/-- data: what a value is, as a tree; ref n: the n-th cell of the store; lst, obj, dk, dt: a new list, instance, dict that nobody holds yet; fro: a list that nobody writes -/
inductive D where
  | non | bl (b : Bool) | int (i : Int) | str (x : Str)
  | tup (ds : List D) | ptup (ds : List D) | ref (n : Nat) | fro (ds : List D)
  | lst (ds : List D) | obj (c : Str) (ks : List Str) (ds : List D)
  | dk (ks : List Key) (ds : List D) | dt (ks : List (List Key)) (ds : List D)
  | exn (a : Addr) (dx : Option Addr) (ks : List Str) (ds : List D)
  deriving Inhabited

inductive Cell where
  | lst (ds : List D) | obj (c : Str) (ks : List Str) (ds : List D) | dk (ks : List Key) (ds : List D) | dt (ks : List (List Key)) (ds : List D)
  deriving Inhabited

abbrev Store := List Cell
abbrev Env' := List (Option D)

/-- a new thing's cell -/
def D.cell? : D → Option Cell
  | .lst ds => some (.lst ds) | .obj c ks ds => some (.obj c ks ds) | .dk ks ds => some (.dk ks ds) | .dt ks ds => some (.dt ks ds) | _ => none
def Cell.d : Cell → D
  | .lst ds => .lst ds | .obj c ks ds => .obj c ks ds | .dk ks ds => .dk ks ds | .dt ks ds => .dt ks ds
def Cell.items : Cell → List D
  | .lst ds => ds | .obj _ _ ds => ds | .dk _ ds => ds | .dt _ ds => ds

mutual
def D.lo (n : Nat) : D → Bool
  | .tup ds => loL n ds
  | .ptup ds => loL n ds
  | .ref k => decide (k < n)
  | .fro ds => loL n ds
  | .lst ds => loL n ds
  | .obj _ _ ds => loL n ds
  | .dk _ ds => loL n ds
  | .dt _ ds => loL n ds
  | .exn _ _ _ ds => loL n ds
  | .non => true | .bl _ => true | .int _ => true | .str _ => true
def loL (n : Nat) : List D → Bool
  | [] => true
  | d :: ds => d.lo n && loL n ds
end
def Cell.lo (n : Nat) (c : Cell) : Bool := loL n c.items

/-- a list that nobody writes -/
def SqF (K : PySem.W.Frag) (H : Hp) (a : Addr) (xs : List V) : Prop :=
  (∃ o, H a = some (.frz o (.lst xs))) ∨
    ∃ (o : Obj) (its : Array Value) (n : Nat), K.lookup a = some o ∧ o.cls = .type "list" ∧ o.dict = none ∧ o.data = .seq its n ∧ its.size ≤ sizeLine ∧ Vals xs its.toList
theorem SqF.seq {K : PySem.W.Frag} {H : Hp} {a : Addr} {xs : List V} (h : SqF K H a xs) : SqL K H a xs := by
  rcases h with h | h
  · exact .inl (.inr h)
  · exact .inr h
/-- a tuple that is known to be plain (no dict of its own) -/
def SqP (H : Hp) (a : Addr) (xs : List V) : Prop := ∃ o, H a = some (.frz o (.tup xs)) ∧ o.dict = none
theorem SqP.t {K : PySem.W.Frag} {H : Hp} {a : Addr} {xs : List V} (h : SqP H a xs) : SqT K H a xs := by
  obtain ⟨o, h, _⟩ := h
  exact .inl (.inr ⟨o, h⟩)
mutual
def Rep (K : PySem.W.Frag) (μ : List Addr) (H : Hp) : D → V → Prop
  | .non, v => v = .non
  | .bl b, v => v = .bl b
  | .int i, v => v = .int i
  | .str x, v => v = .str x
  | .tup ds, v => ∃ a vs, v = .ref a ∧ SqT K H a vs ∧ RepL K μ H ds vs
  | .ptup ds, v => ∃ a vs, v = .ref a ∧ SqP H a vs ∧ RepL K μ H ds vs
  | .ref n, v => ∃ a, μ[n]? = some a ∧ v = .ref a
  | .fro ds, v => ∃ a vs, v = .ref a ∧ SqF K H a vs ∧ RepL K μ H ds vs
  | .lst _, _ => False
  | .obj _ _ _, _ => False
  | .dk _ _, _ => False
  | .dt _ _, _ => False
  | .exn a dx ks ds, v => v = .ref a ∧ (dx = none → ds = []) ∧ ∀ x, dx = some x → ∃ vs, H x = some (.xd (ks.zip vs)) ∧ ks.length = ds.length ∧ RepL K μ H ds vs
def RepL (K : PySem.W.Frag) (μ : List Addr) (H : Hp) : List D → List V → Prop
  | [], vs => vs = []
  | d :: ds, vs => ∃ v r, vs = v :: r ∧ Rep K μ H d v ∧ RepL K μ H ds r
end

variable {K : PySem.W.Frag} {mg : Str → Option Value} {μ ext : List Addr} {H H' H1 H2 : Hp}

theorem RepL.length : ∀ {ds : List D} {vs : List V}, RepL K μ H ds vs → ds.length = vs.length
  | [], _, h => by unfold RepL at h; subst h; rfl
  | d :: ds, _, h => by
    unfold RepL at h
    obtain ⟨v, r, rfl, _, h⟩ := h
    simp [RepL.length h]
theorem RepL.nil : RepL K μ H [] [] := by unfold RepL; rfl
theorem RepL.cons {d : D} {ds : List D} {v : V} {vs : List V} (h1 : Rep K μ H d v) (h2 : RepL K μ H ds vs) : RepL K μ H (d :: ds) (v :: vs) := by
  unfold RepL; exact ⟨v, vs, rfl, h1, h2⟩
theorem RepL.nil_iff {vs : List V} : RepL K μ H [] vs ↔ vs = [] := by unfold RepL; exact Iff.rfl
theorem RepL.cons_iff {d : D} {ds : List D} {vs : List V} : RepL K μ H (d :: ds) vs ↔ ∃ v r, vs = v :: r ∧ Rep K μ H d v ∧ RepL K μ H ds r := by
  constructor
  · intro h; unfold RepL at h; exact h
  · intro h; unfold RepL; exact h
theorem RepL.append {ds es : List D} : ∀ {vs us : List V}, RepL K μ H ds vs → RepL K μ H es us → RepL K μ H (ds ++ es) (vs ++ us) := by
  induction ds with
  | nil => intro vs us h1 h2; rw [RepL.nil_iff] at h1; subst h1; exact h2
  | cons d ds ih =>
    intro vs us h1 h2
    obtain ⟨v, r, rfl, hv, hr⟩ := RepL.cons_iff.mp h1
    exact RepL.cons hv (ih hr h2)
theorem RepL.get {ds : List D} : ∀ {vs : List V} {i : Nat} {d : D}, RepL K μ H ds vs → ds[i]? = some d → ∃ v, vs[i]? = some v ∧ Rep K μ H d v := by
  induction ds with
  | nil => intro vs i d _ h; simp at h
  | cons e ds ih =>
    intro vs i d h1 h2
    obtain ⟨v, r, rfl, hv, hr⟩ := RepL.cons_iff.mp h1
    cases i with
    | zero => simp at h2; subst h2; exact ⟨v, rfl, hv⟩
    | succ i => simpa using ih hr (by simpa using h2)
theorem RepL.of_get {ds : List D} : ∀ {vs : List V}, ds.length = vs.length → (∀ (i : Nat) d v, ds[i]? = some d → vs[i]? = some v → Rep K μ H d v) → RepL K μ H ds vs := by
  induction ds with
  | nil => intro vs h _; rw [RepL.nil_iff]; exact List.length_eq_zero_iff.mp h.symm
  | cons e ds ih =>
    intro vs h1 h2
    cases vs with
    | nil => simp at h1
    | cons v r =>
      refine RepL.cons (h2 0 e v rfl rfl) (ih (by simpa using h1) fun i d v' a b => h2 (i + 1) d v' (by simpa using a) (by simpa using b))
theorem RepL.take {ds : List D} {vs : List V} (n : Nat) (h : RepL K μ H ds vs) : RepL K μ H (ds.take n) (vs.take n) := by
  refine RepL.of_get (by simp [h.length]) fun i d v a b => ?_
  rw [List.getElem?_take] at a b
  split at a
  · rename_i hi; rw [if_pos hi] at b; obtain ⟨w, e, r⟩ := h.get a; rw [b] at e; cases e; exact r
  · cases a
theorem RepL.drop {ds : List D} {vs : List V} (n : Nat) (h : RepL K μ H ds vs) : RepL K μ H (ds.drop n) (vs.drop n) := by
  refine RepL.of_get (by simp [h.length]) fun i d v a b => ?_
  rw [List.getElem?_drop] at a b
  obtain ⟨w, e, r⟩ := h.get a; rw [b] at e; cases e; exact r
theorem RepL.set {ds : List D} {vs : List V} {d : D} {v : V} (n : Nat) (h : RepL K μ H ds vs) (h1 : Rep K μ H d v) : RepL K μ H (ds.set n d) (vs.set n v) := by
  refine RepL.of_get (by simp [h.length]) fun i e w a b => ?_
  rw [List.getElem?_set] at a b
  split at a
  · rename_i hi; rw [if_pos hi] at b
    split at a
    · split at b
      · cases a; cases b; exact h1
      · cases b
    · cases a
  · rename_i hi; rw [if_neg hi] at b; obtain ⟨w', e', r⟩ := h.get a; rw [b] at e'; cases e'; exact r
theorem RepL.eraseIdx {ds : List D} {vs : List V} (n : Nat) (h : RepL K μ H ds vs) : RepL K μ H (ds.eraseIdx n) (vs.eraseIdx n) := by
  rw [List.eraseIdx_eq_take_drop_succ, List.eraseIdx_eq_take_drop_succ]
  exact (h.take n).append (h.drop (n + 1))
theorem RepL.reverse {ds : List D} : ∀ {vs : List V}, RepL K μ H ds vs → RepL K μ H ds.reverse vs.reverse := by
  induction ds with
  | nil => intro vs h; rw [RepL.nil_iff] at h; subst h; exact RepL.nil
  | cons d ds ih =>
    intro vs h
    obtain ⟨v, r, rfl, hv, hr⟩ := RepL.cons_iff.mp h
    rw [List.reverse_cons, List.reverse_cons]
    exact (ih hr).append (RepL.cons hv RepL.nil)

/-- what may be written stands there -/
def Wr (H : Hp) (a : Addr) : Prop := (∃ vs, H a = some (.lst vs)) ∨ (∃ C dx fs, H a = some (.ins C dx fs)) ∨ (∃ k, H a = some (.dK k)) ∨ (∃ k, H a = some (.dT k))
/-- all but the cells is kept -/
def Keep (μ : List Addr) (H H' : Hp) : Prop := ∀ a o, H a = some o → a ∉ μ → H' a = some o
theorem Keep.refl : Keep μ H H := fun _ _ h _ => h

theorem sqT_keep {a : Addr} {vs : List V} (hw : ∀ a ∈ μ, Wr H a) (k : Keep μ H H') (h : SqT K H a vs) : SqT K H' a vs := by
  rcases h with (h | ⟨o, h⟩) | h
  · refine .inl (.inl (k _ _ h fun hm => ?_))
    rcases hw _ hm with ⟨_, e⟩ | ⟨_, _, _, e⟩ | ⟨_, e⟩ | ⟨_, e⟩ <;> rw [h] at e <;> cases e
  · refine .inl (.inr ⟨o, k _ _ h fun hm => ?_⟩)
    rcases hw _ hm with ⟨_, e⟩ | ⟨_, _, _, e⟩ | ⟨_, e⟩ | ⟨_, e⟩ <;> rw [h] at e <;> cases e
  · exact .inr h

theorem sqP_keep {a : Addr} {vs : List V} (hw : ∀ a ∈ μ, Wr H a) (k : Keep μ H H') (h : SqP H a vs) : SqP H' a vs := by
  obtain ⟨o, h, hd⟩ := h
  refine ⟨o, k _ _ h fun hm => ?_, hd⟩
  rcases hw _ hm with ⟨_, e⟩ | ⟨_, _, _, e⟩ | ⟨_, e⟩ | ⟨_, e⟩ <;> rw [h] at e <;> cases e

theorem sqF_keep {a : Addr} {vs : List V} (hw : ∀ a ∈ μ, Wr H a) (k : Keep μ H H') (h : SqF K H a vs) : SqF K H' a vs := by
  rcases h with ⟨o, h⟩ | h
  · refine .inl ⟨o, k _ _ h fun hm => ?_⟩
    rcases hw _ hm with ⟨_, e⟩ | ⟨_, _, _, e⟩ | ⟨_, e⟩ | ⟨_, e⟩ <;> rw [h] at e <;> cases e
  · exact .inr h

mutual
theorem Rep.mono (hw : ∀ a ∈ μ, Wr H a) (k : Keep μ H H') : ∀ {d : D} {v : V}, Rep K μ H d v → Rep K (μ ++ ext) H' d v
  | .non, _, h => by unfold Rep at h ⊢; exact h
  | .bl _, _, h => by unfold Rep at h ⊢; exact h
  | .int _, _, h => by unfold Rep at h ⊢; exact h
  | .str _, _, h => by unfold Rep at h ⊢; exact h
  | .tup ds, _, h => by
    unfold Rep at h ⊢
    obtain ⟨a, vs, e, h1, h2⟩ := h
    exact ⟨a, vs, e, sqT_keep hw k h1, RepL.mono hw k h2⟩
  | .ptup ds, _, h => by
    unfold Rep at h ⊢
    obtain ⟨a, vs, e, h1, h2⟩ := h
    exact ⟨a, vs, e, sqP_keep hw k h1, RepL.mono hw k h2⟩
  | .ref n, _, h => by
    unfold Rep at h ⊢
    obtain ⟨a, e, h1⟩ := h
    exact ⟨a, by rw [List.getElem?_append_left (List.getElem?_eq_some_iff.mp e).1]; exact e, h1⟩
  | .fro ds, _, h => by
    unfold Rep at h ⊢
    obtain ⟨a, vs, e, h1, h2⟩ := h
    exact ⟨a, vs, e, sqF_keep hw k h1, RepL.mono hw k h2⟩
  | .lst _, _, h => by unfold Rep at h; exact h.elim
  | .obj _ _ _, _, h => by unfold Rep at h; exact h.elim
  | .dk _ _, _, h => by unfold Rep at h; exact h.elim
  | .dt _ _, _, h => by unfold Rep at h; exact h.elim
  | .exn a dx ks ds, _, h => by
    unfold Rep at h ⊢
    obtain ⟨e, e0, h⟩ := h
    refine ⟨e, e0, fun x hx => ?_⟩
    obtain ⟨vs, h1, h2, h3⟩ := h x hx
    refine ⟨vs, k x _ h1 fun hm => ?_, h2, RepL.mono hw k h3⟩
    rcases hw x hm with ⟨_, e⟩ | ⟨_, _, _, e⟩ | ⟨_, e⟩ | ⟨_, e⟩ <;> rw [h1] at e <;> cases e
theorem RepL.mono (hw : ∀ a ∈ μ, Wr H a) (k : Keep μ H H') : ∀ {ds : List D} {vs : List V}, RepL K μ H ds vs → RepL K (μ ++ ext) H' ds vs
  | [], _, h => by rw [RepL.nil_iff] at h ⊢; exact h
  | d :: ds, _, h => by
    rw [RepL.cons_iff] at h ⊢
    obtain ⟨v, r, e, h1, h2⟩ := h
    exact ⟨v, r, e, Rep.mono hw k h1, RepL.mono hw k h2⟩
end

/-! ### cells -/
def Cell.ho (c : Cell) (C dx : Addr) (vs : List V) : HO := match c with
  | .lst _ => .lst vs
  | .obj _ ks _ => .ins C dx (ks.zip vs)
  | .dk ks _ => .dK (ks.zip vs)
  | .dt ks _ => .dT (ks.zip vs)
def Cell.cls (mg : Str → Option Value) (C : Addr) : Cell → Prop
  | .obj c _ _ => mg c = some (.ref C)
  | _ => True
def Cell.wf : Cell → Prop
  | .lst _ => True
  | .obj _ ks ds => ks.length = ds.length
  | .dk ks ds => ks.length = ds.length
  | .dt ks ds => ks.length = ds.length
def CellOk (K : PySem.W.Frag) (mg : Str → Option Value) (μ : List Addr) (H : Hp) (a : Addr) (c : Cell) : Prop :=
  ∃ C dx vs, c.cls mg C ∧ H a = some (c.ho C dx vs) ∧ c.wf ∧ RepL K μ H c.items vs
theorem Cell.ho_wr {c : Cell} {C dx : Addr} {vs : List V} {a : Addr} (h : H a = some (c.ho C dx vs)) : Wr H a := by
  cases c with
  | lst _ => exact .inl ⟨_, h⟩
  | obj _ _ _ => exact .inr (.inl ⟨_, _, _, h⟩)
  | dk _ _ => exact .inr (.inr (.inl ⟨_, h⟩))
  | dt _ _ => exact .inr (.inr (.inr ⟨_, h⟩))
theorem CellOk.wr {a : Addr} {c : Cell} (h : CellOk K mg μ H a c) : Wr H a := by
  obtain ⟨C, dx, vs, _, e, _⟩ := h
  exact Cell.ho_wr e
theorem Wr.ne_none {a : Addr} (h : Wr H a) : H a ≠ none := by
  rcases h with ⟨_, e⟩ | ⟨_, _, _, e⟩ | ⟨_, e⟩ | ⟨_, e⟩ <;> rw [e] <;> exact fun z => nomatch z

structure Rel (K : PySem.W.Frag) (mg : Str → Option Value) (μ : List Addr) (S : Store) (H : Hp) : Prop where
  nd : μ.Nodup
  len : μ.length = S.length
  cell : ∀ (n : Nat) a c, μ[n]? = some a → S[n]? = some c → CellOk K mg μ H a c
variable {S S' S1 S2 : Store} {μ' μ1 μ2 : List Addr}
theorem Rel.wr (R : Rel K mg μ S H) : ∀ a ∈ μ, Wr H a := fun a ha => by
  obtain ⟨n, hn, e⟩ := List.mem_iff_getElem.mp ha
  have e1 : μ[n]? = some a := by rw [List.getElem?_eq_getElem hn, e]
  have hs : n < S.length := by rw [← R.len]; exact hn
  have e2 : S[n]? = some S[n] := List.getElem?_eq_getElem hs
  exact (R.cell n a _ e1 e2).wr
theorem Rel.get (R : Rel K mg μ S H) {n : Nat} {c : Cell} (h : S[n]? = some c) : ∃ a, μ[n]? = some a ∧ CellOk K mg μ H a c := by
  have hn : n < μ.length := by rw [R.len]; exact (List.getElem?_eq_some_iff.mp h).1
  exact ⟨μ[n], List.getElem?_eq_getElem hn, R.cell n _ c (List.getElem?_eq_getElem hn) h⟩
theorem Rel.nil : Rel K mg [] [] H := ⟨List.nodup_nil, rfl, fun n a c h => by simp at h⟩

/-- what running does: more cells, the rest is kept -/
def Step (K : PySem.W.Frag) (mg : Str → Option Value) (μ : List Addr) (H : Hp) (μ' : List Addr) (S' : Store) (H' : Hp) : Prop :=
  ∃ ext, μ' = μ ++ ext ∧ Rel K mg μ' S' H' ∧ Keep μ H H' ∧ ∀ a ∈ ext, H a = none
theorem Step.refl (R : Rel K mg μ S H) : Step K mg μ H μ S H := ⟨[], by simp, R, Keep.refl, fun _ h => nomatch h⟩
theorem Step.rel (st : Step K mg μ H μ' S' H') : Rel K mg μ' S' H' := let ⟨_, _, r, _⟩ := st; r
/-- what was new behind is new ahead -/
theorem Step.back (R : Rel K mg μ S H) (st : Step K mg μ H μ' S' H') {a : Addr} (h : H' a = none) : H a = none := by
  obtain ⟨ext, e, R', k, _⟩ := st
  cases q : H a with
  | none => rfl
  | some o =>
    by_cases hm : a ∈ μ
    · have : a ∈ μ' := by rw [e]; exact List.mem_append_left _ hm
      exact absurd h (R'.wr a this).ne_none
    · rw [k a o q hm] at h; cases h
theorem Step.trans (R : Rel K mg μ S H) (s1 : Step K mg μ H μ1 S1 H1) (s2 : Step K mg μ1 H1 μ2 S2 H2) : Step K mg μ H μ2 S2 H2 := by
  have bk := fun {a} (h : H1 a = none) => s1.back R h
  obtain ⟨e1, q1, R1, k1, f1⟩ := s1
  obtain ⟨e2, q2, R2, k2, f2⟩ := s2
  subst q1
  refine ⟨e1 ++ e2, by rw [q2, List.append_assoc], R2, fun a o h hm => ?_, fun a ha => ?_⟩
  · refine k2 a o (k1 a o h hm) fun hm1 => ?_
    rcases List.mem_append.mp hm1 with z | z
    · exact hm z
    · rw [f1 a z] at h; cases h
  · rcases List.mem_append.mp ha with z | z
    · exact f1 a z
    · exact bk (f2 a z)
theorem Step.rep (R : Rel K mg μ S H) (st : Step K mg μ H μ' S' H') {d : D} {v : V} (h : Rep K μ H d v) : Rep K μ' H' d v := by
  obtain ⟨ext, e, _, k, _⟩ := st
  subst e
  exact h.mono R.wr k
theorem Step.repL (R : Rel K mg μ S H) (st : Step K mg μ H μ' S' H') {d : List D} {v : List V} (h : RepL K μ H d v) : RepL K μ' H' d v := by
  obtain ⟨ext, e, _, k, _⟩ := st
  subst e
  exact h.mono R.wr k
theorem Step.nin (st : Step K mg μ H μ' S' H') {a : Addr} {o : HO} (h : H a = some o) (hm : a ∉ μ) : a ∉ μ' ∧ H' a = some o := by
  obtain ⟨ext, e, _, k, f⟩ := st
  refine ⟨fun hm' => ?_, k a o h hm⟩
  rw [e] at hm'
  rcases List.mem_append.mp hm' with z | z
  · exact hm z
  · rw [f a z] at h; cases h

/-- a result: plain, or a new thing that nobody holds -/
def ResOk (K : PySem.W.Frag) (mg : Str → Option Value) (μ : List Addr) (H0 H : Hp) (d : D) (v : V) : Prop := match d.cell? with
  | some c => ∃ a, v = .ref a ∧ CellOk K mg μ H a c ∧ a ∉ μ ∧ H0 a = none
  | none => Rep K μ H d v
theorem ResOk.plain {H0 : Hp} {d : D} {v : V} (h : Rep K μ H d v) : ResOk K mg μ H0 H d v := by
  unfold ResOk
  cases d <;> first | exact h | (unfold Rep at h; exact h.elim)
theorem ResOk.new {H0 : Hp} {d : D} {c : Cell} {a : Addr} (e : d.cell? = some c) (h : CellOk K mg μ H a c) (h1 : a ∉ μ) (h2 : H0 a = none) : ResOk K mg μ H0 H d (.ref a) := by
  unfold ResOk
  rw [e]
  exact ⟨a, rfl, h, h1, h2⟩
theorem ResOk.rep {H0 : Hp} {d : D} {v : V} (h : ResOk K mg μ H0 H d v) (e : d.cell? = none) : Rep K μ H d v := by
  unfold ResOk at h
  rw [e] at h
  exact h
theorem CellOk.step {a : Addr} {c : Cell} (R : Rel K mg μ S H) (st : Step K mg μ H μ' S' H') (h : CellOk K mg μ H a c) (hm : a ∉ μ) : CellOk K mg μ' H' a c ∧ a ∉ μ' := by
  obtain ⟨C, dx, vs, h1, h2, h3, h4⟩ := h
  obtain ⟨n1, n2⟩ := st.nin h2 hm
  exact ⟨⟨C, dx, vs, h1, n2, h3, st.repL R h4⟩, n1⟩
theorem ResOk.step {H0 : Hp} {d : D} {v : V} (R : Rel K mg μ S H) (st : Step K mg μ H μ' S' H') (h : ResOk K mg μ H0 H d v) : ResOk K mg μ' H0 H' d v := by
  unfold ResOk at h ⊢
  cases e : d.cell? with
  | none => rw [e] at h; exact st.rep R h
  | some c =>
    rw [e] at h
    obtain ⟨a, rfl, h1, h2, h3⟩ := h
    obtain ⟨q1, q2⟩ := h1.step R st h2
    exact ⟨a, rfl, q1, q2, h3⟩
/-- seen from further ahead -/
theorem ResOk.back {d : D} {v : V} {S0 : Store} {μ0 : List Addr} {H0 : Hp} (R : Rel K mg μ0 S0 H0) (st : Step K mg μ0 H0 μ1 S1 H1) (h : ResOk K mg μ H1 H d v) : ResOk K mg μ H0 H d v := by
  unfold ResOk at h ⊢
  cases e : d.cell? with
  | none => rw [e] at h; exact h
  | some c =>
    rw [e] at h
    obtain ⟨a, rfl, h1, h2, h3⟩ := h
    exact ⟨a, rfl, h1, h2, st.back R h3⟩

/-- a new thing is held -/
def box (d : D) (S : Store) : D × Store := match d.cell? with
  | some c => (.ref S.length, S ++ [c])
  | none => (d, S)
theorem CellOk.more {a : Addr} {c : Cell} (hw : ∀ a ∈ μ, Wr H a) (h : CellOk K mg μ H a c) : CellOk K mg (μ ++ ext) H a c := by
  obtain ⟨C, dx, vs, h1, h2, h3, h4⟩ := h
  exact ⟨C, dx, vs, h1, h2, h3, h4.mono hw Keep.refl⟩
theorem Rel.more {a : Addr} {c : Cell} (R : Rel K mg μ S H) (h : CellOk K mg μ H a c) (hm : a ∉ μ) : Rel K mg (μ ++ [a]) (S ++ [c]) H := by
  refine ⟨?_, by simp [R.len], fun n b k h1 h2 => ?_⟩
  · rw [List.nodup_append]
    exact ⟨R.nd, by simp, fun x hx y hy => by simp at hy; subst hy; exact fun e => hm (e ▸ hx)⟩
  · by_cases hn : n < μ.length
    · rw [List.getElem?_append_left hn] at h1
      rw [List.getElem?_append_left (by rw [← R.len]; exact hn)] at h2
      exact (R.cell n b k h1 h2).more R.wr
    · have hl := R.len
      rw [List.getElem?_append_right (by omega)] at h1 h2
      have : n - μ.length = 0 := by
        have := (List.getElem?_eq_some_iff.mp h1).1
        simpa using this
      rw [this] at h1
      rw [show n - S.length = 0 by omega] at h2
      simp at h1 h2
      subst h1 h2
      exact h.more R.wr
theorem Step.box {d : D} {v : V} {H0 : Hp} {μ0 : List Addr} (st : Step K mg μ0 H0 μ S H) (h : ResOk K mg μ H0 H d v) :
    ∃ μ', Step K mg μ0 H0 μ' (Ev.box d S).2 H ∧ Rep K μ' H (Ev.box d S).1 v ∧ ∃ ext, μ' = μ ++ ext := by
  unfold ResOk at h
  unfold Ev.box
  cases e : d.cell? with
  | none => rw [e] at h; exact ⟨μ, st, h, [], by simp⟩
  | some c =>
    rw [e] at h
    obtain ⟨a, rfl, h1, h2, h3⟩ := h
    obtain ⟨ext, q, R, k, f⟩ := st
    refine ⟨μ ++ [a], ⟨ext ++ [a], by rw [q, List.append_assoc], R.more h1 h2, k, fun b hb => ?_⟩, ?_, [a], rfl⟩
    · rcases List.mem_append.mp hb with z | z
      · exact f b z
      · simp at z; subst z; exact h3
    · unfold Rep
      exact ⟨a, by rw [← R.len]; simp, rfl⟩

/-! ### slots -/
structure EnvOk (K : PySem.W.Frag) (μ : List Addr) (H : Hp) (ρ : Env') (σ : L2.St) : Prop where
  len : ρ.length = σ.length
  at_ : ∀ (i : Nat) d, ρ[i]? = some (some d) → ∃ v, σ[i]? = some (some v) ∧ Rep K μ H d v
theorem EnvOk.step {ρ : Env'} {σ : L2.St} (R : Rel K mg μ S H) (st : Step K mg μ H μ' S' H') (h : EnvOk K μ H ρ σ) : EnvOk K μ' H' ρ σ :=
  ⟨h.len, fun i d e => let ⟨v, e1, r⟩ := h.at_ i d e; ⟨v, e1, st.rep R r⟩⟩
theorem EnvOk.more {ρ : Env'} {σ : L2.St} (R : Rel K mg μ S H) (h : EnvOk K μ H ρ σ) : EnvOk K (μ ++ ext) H ρ σ :=
  ⟨h.len, fun i d e => let ⟨v, e1, r⟩ := h.at_ i d e; ⟨v, e1, r.mono R.wr Keep.refl⟩⟩
theorem EnvOk.set {ρ : Env'} {σ : L2.St} {d : D} {v : V} (i : Nat) (h : EnvOk K μ H ρ σ) (r : Rep K μ H d v) : EnvOk K μ H (ρ.set i (some d)) (σ.set i (some v)) := by
  refine ⟨by simp [h.len], fun j e q => ?_⟩
  rw [List.getElem?_set] at q ⊢
  split at q
  · rename_i hi
    rw [if_pos hi]
    split at q
    · rename_i hl
      rw [if_pos (by rw [← h.len]; exact hl)]
      cases q
      exact ⟨v, rfl, r⟩
    · cases q
  · rename_i hi
    rw [if_neg hi]
    exact h.at_ j e q
theorem EnvOk.unset {ρ : Env'} {σ : L2.St} (i : Nat) (h : EnvOk K μ H ρ σ) : EnvOk K μ H (ρ.set i none) σ := by
  refine ⟨by simp [h.len], fun j e q => ?_⟩
  rw [List.getElem?_set] at q
  split at q
  · split at q <;> cases q
  · exact h.at_ j e q

/-! ### new objects, changed cells -/
theorem keep_fresh {p : Addr} {o : HO} (h : H p = none) : Keep μ H (upd H p o) := fun a u e _ => by
  rw [upd_ne (ne_of_none e h)]; exact e
theorem Rep.keep {d : D} {v : V} (R : Rel K mg μ S H) (k : Keep μ H H') (h : Rep K μ H d v) : Rep K μ H' d v := by
  have := h.mono (ext := []) R.wr k
  rwa [List.append_nil] at this
theorem RepL.keep {d : List D} {v : List V} (R : Rel K mg μ S H) (k : Keep μ H H') (h : RepL K μ H d v) : RepL K μ H' d v := by
  have := h.mono (ext := []) R.wr k
  rwa [List.append_nil] at this
theorem Rel.fresh {p : Addr} {o : HO} (R : Rel K mg μ S H) (h : H p = none) : Rel K mg μ S (upd H p o) := by
  refine ⟨R.nd, R.len, fun n a c h1 h2 => ?_⟩
  obtain ⟨C, dx, vs, q1, q2, q3, q4⟩ := R.cell n a c h1 h2
  exact ⟨C, dx, vs, q1, by rw [upd_ne (ne_of_none q2 h)]; exact q2, q3, q4.keep R (keep_fresh h)⟩
theorem Step.fresh {p : Addr} {o : HO} (R : Rel K mg μ S H) (h : H p = none) : Step K mg μ H μ S (upd H p o) :=
  ⟨[], by simp, R.fresh h, keep_fresh h, fun _ z => nomatch z⟩
theorem Rel.nin (R : Rel K mg μ S H) {p : Addr} (h : H p = none) : p ∉ μ := fun hm => (R.wr p hm).ne_none h
/-- a new list -/
theorem new_lst {ds : List D} {vs : List V} {p : Addr} (R : Rel K mg μ S H) (h : H p = none) (r : RepL K μ H ds vs) : ResOk K mg μ H (upd H p (.lst vs)) (.lst ds) (.ref p) :=
  ResOk.new (c := .lst ds) rfl ⟨0, 0, vs, trivial, upd_same, trivial, r.keep R (keep_fresh h)⟩ (R.nin h) h
theorem new_tup {ds : List D} {vs : List V} {p : Addr} (R : Rel K mg μ S H) (h : H p = none) (r : RepL K μ H ds vs) : ResOk K mg μ H (upd H p (.tup vs)) (.tup ds) (.ref p) :=
  ResOk.plain (by unfold Rep; exact ⟨p, vs, rfl, SqT.of upd_same, r.keep R (keep_fresh h)⟩)
/-- a cell is changed -/
theorem keep_write {a : Addr} {o : HO} (hm : a ∈ μ) : Keep μ H (upd H a o) := fun b u e hb => by
  rw [upd_ne (fun z => hb (by rw [z]; exact hm))]; exact e
theorem Rel.write {n : Nat} {a C dx : Addr} {c : Cell} {vs : List V} (R : Rel K mg μ S H) (hn : μ[n]? = some a) (h1 : c.cls mg C) (h2 : c.wf) (h3 : RepL K μ H c.items vs) : Rel K mg μ (S.set n c) (upd H a (c.ho C dx vs)) := by
  have hm : a ∈ μ := List.mem_of_getElem? hn
  refine ⟨R.nd, by simp [R.len], fun m b k e1 e2 => ?_⟩
  rw [List.getElem?_set] at e2
  by_cases hmn : n = m
  · subst hmn
    rw [hn] at e1; cases e1
    rw [if_pos rfl] at e2
    split at e2
    · cases e2
      exact ⟨C, dx, vs, h1, upd_same, h2, h3.keep R (keep_write hm)⟩
    · cases e2
  · rw [if_neg hmn] at e2
    have hab : b ≠ a := fun z => by
      subst z
      obtain ⟨l1, q1⟩ := List.getElem?_eq_some_iff.mp hn
      obtain ⟨l2, q2⟩ := List.getElem?_eq_some_iff.mp e1
      exact hmn ((List.getElem_inj R.nd).mp (q1.trans q2.symm))
    obtain ⟨C', dx', vs', q1, q2, q3, q4⟩ := R.cell m b k e1 e2
    exact ⟨C', dx', vs', q1, by rw [upd_ne hab]; exact q2, q3, q4.keep R (keep_write hm)⟩
theorem Step.write {n : Nat} {a C dx : Addr} {c : Cell} {vs : List V} (R : Rel K mg μ S H) (hn : μ[n]? = some a) (h1 : c.cls mg C) (h2 : c.wf) (h3 : RepL K μ H c.items vs) : Step K mg μ H μ (S.set n c) (upd H a (c.ho C dx vs)) :=
  ⟨[], by simp, R.write hn h1 h2 h3, keep_write (List.mem_of_getElem? hn), fun _ z => nomatch z⟩

/-! ### cutting back -/
mutual
theorem Rep.lo {d : D} {v : V} : Rep K μ H d v → d.lo μ.length = true := by
  cases d with
  | non => intro _; rfl
  | bl _ => intro _; rfl
  | int _ => intro _; rfl
  | str _ => intro _; rfl
  | tup ds =>
    intro h; unfold Rep at h; obtain ⟨_, _, _, _, r⟩ := h
    unfold D.lo; exact RepL.lo r
  | ptup ds =>
    intro h; unfold Rep at h; obtain ⟨_, _, _, _, r⟩ := h
    unfold D.lo; exact RepL.lo r
  | ref n =>
    intro h; unfold Rep at h; obtain ⟨_, e, _⟩ := h
    unfold D.lo; exact decide_eq_true (List.getElem?_eq_some_iff.mp e).1
  | fro ds =>
    intro h; unfold Rep at h; obtain ⟨_, _, _, _, r⟩ := h
    unfold D.lo; exact RepL.lo r
  | lst _ => intro h; unfold Rep at h; exact h.elim
  | obj _ _ _ => intro h; unfold Rep at h; exact h.elim
  | dk _ _ => intro h; unfold Rep at h; exact h.elim
  | dt _ _ => intro h; unfold Rep at h; exact h.elim
  | exn a dx ks ds =>
    intro h; unfold Rep at h; obtain ⟨_, e0, r⟩ := h
    unfold D.lo
    cases dx with
    | none => rw [e0 rfl]; rfl
    | some x =>
      obtain ⟨vs, _, _, r⟩ := r x rfl
      exact RepL.lo r
theorem RepL.lo {ds : List D} {vs : List V} : RepL K μ H ds vs → loL μ.length ds = true := by
  cases ds with
  | nil => intro _; rfl
  | cons d ds =>
    intro h
    obtain ⟨v, r, rfl, h1, h2⟩ := RepL.cons_iff.mp h
    unfold loL
    rw [Rep.lo h1, RepL.lo h2]; rfl
end
mutual
theorem Rep.cut {d : D} {v : V} : Rep K (μ ++ ext) H d v → d.lo μ.length = true → Rep K μ H d v := by
  cases d with
  | non => intro h _; unfold Rep at h ⊢; exact h
  | bl _ => intro h _; unfold Rep at h ⊢; exact h
  | int _ => intro h _; unfold Rep at h ⊢; exact h
  | str _ => intro h _; unfold Rep at h ⊢; exact h
  | tup ds =>
    intro h l; unfold Rep at h ⊢; obtain ⟨a, vs, e, q, r⟩ := h
    unfold D.lo at l; exact ⟨a, vs, e, q, RepL.cut r l⟩
  | ptup ds =>
    intro h l; unfold Rep at h ⊢; obtain ⟨a, vs, e, q, r⟩ := h
    unfold D.lo at l; exact ⟨a, vs, e, q, RepL.cut r l⟩
  | ref n =>
    intro h l; unfold Rep at h ⊢; obtain ⟨a, e, q⟩ := h
    unfold D.lo at l
    rw [List.getElem?_append_left (of_decide_eq_true l)] at e
    exact ⟨a, e, q⟩
  | fro ds =>
    intro h l; unfold Rep at h ⊢; obtain ⟨a, vs, e, q, r⟩ := h
    unfold D.lo at l; exact ⟨a, vs, e, q, RepL.cut r l⟩
  | lst _ => intro h _; unfold Rep at h; exact h.elim
  | obj _ _ _ => intro h _; unfold Rep at h; exact h.elim
  | dk _ _ => intro h _; unfold Rep at h; exact h.elim
  | dt _ _ => intro h _; unfold Rep at h; exact h.elim
  | exn a dx ks ds =>
    intro h l; unfold Rep at h ⊢; obtain ⟨e, e0, r⟩ := h
    unfold D.lo at l
    refine ⟨e, e0, fun x hx => ?_⟩
    obtain ⟨vs, h1, h2, h3⟩ := r x hx
    exact ⟨vs, h1, h2, RepL.cut h3 l⟩
theorem RepL.cut {ds : List D} {vs : List V} : RepL K (μ ++ ext) H ds vs → loL μ.length ds = true → RepL K μ H ds vs := by
  cases ds with
  | nil => intro h _; rw [RepL.nil_iff] at h ⊢; exact h
  | cons d ds =>
    intro h l
    obtain ⟨v, r, rfl, h1, h2⟩ := RepL.cons_iff.mp h
    unfold loL at l
    rw [Bool.and_eq_true] at l
    exact RepL.cons (Rep.cut h1 l.1) (RepL.cut h2 l.2)
end
/-- the elder cells hold no newer ones -/
def Clean (S S' : Store) : Prop := ∀ k, k < S.length → S'[k]? = S[k]? ∨ ∃ c, S'[k]? = some c ∧ c.lo S.length = true
theorem Rel.cut (R : Rel K mg μ S H) (R' : Rel K mg (μ ++ ext) S' H') (c : Clean S S') : Rel K mg μ (S'.take S.length) H' := by
  have hl := R'.len
  have hl0 := R.len
  rw [List.length_append] at hl
  refine ⟨R.nd, by simp; omega, fun n a k h1 h2 => ?_⟩
  have hn : n < μ.length := (List.getElem?_eq_some_iff.mp h1).1
  rw [List.getElem?_take, if_pos (by omega)] at h2
  have h1' : (μ ++ ext)[n]? = some a := by rw [List.getElem?_append_left hn]; exact h1
  obtain ⟨C, dx, vs, q1, q2, q3, q4⟩ := R'.cell n a k h1' h2
  refine ⟨C, dx, vs, q1, q2, q3, q4.cut ?_⟩
  rw [hl0]
  rcases c n (by omega) with z | ⟨c', z, l⟩
  · rw [h2] at z
    obtain ⟨_, _, _, _, _, _, r⟩ := R.cell n a k h1 z.symm
    rw [← hl0]
    exact r.lo
  · rw [h2] at z; cases z; exact l
end Ev
/-! Ev2: outcomes, the judgement of an expression, values' operations. -/
namespace Ev
open PySem PySem.Spec PyProof.Rows L2

inductive Out (α : Type) where
  | ok (a : α) (S : Store) | exc (c : Str) (ks : List Str) (ds : List D) (S : Store) | fail
def Out.bind {α β : Type} (r : Out α) (f : α → Store → Out β) : Out β := match r with
  | .ok a S => f a S
  | .exc c ks ds S => .exc c ks ds S
  | .fail => .fail
@[simp] theorem bind_ok {α β : Type} {a : α} {S : Store} {f : α → Store → Out β} : (Out.ok a S).bind f = f a S := rfl
@[simp] theorem bind_exc {α β : Type} {c : Str} {ks : List Str} {ds : List D} {S : Store} {f : α → Store → Out β} : (Out.exc c ks ds S : Out α).bind f = .exc c ks ds S := rfl
@[simp] theorem bind_fail {α β : Type} {f : α → Store → Out β} : (Out.fail : Out α).bind f = .fail := rfl
theorem bind_eq_ok {α β : Type} {r : Out α} {f : α → Store → Out β} {b : β} {S : Store} (h : r.bind f = .ok b S) : ∃ a S1, r = .ok a S1 ∧ f a S1 = .ok b S := by
  cases r with
  | ok a S1 => exact ⟨a, S1, rfl, h⟩
  | exc => cases h
  | fail => cases h
/-- a function that may fail, no store changed -/
def Out.of {α : Type} (o : Option α) (S : Store) : Out α := match o with
  | some a => .ok a S
  | none => .fail
@[simp] theorem of_some {α : Type} {a : α} {S : Store} : Out.of (some a) S = .ok a S := rfl
@[simp] theorem of_none {α : Type} {S : Store} : Out.of (none : Option α) S = .fail := rfl

/-- an exception's representation -/
def ExcRep (K : PySem.W.Frag) (mg : Str → Option Value) (μ : List Addr) (H : Hp) (c : Str) (ks : List Str) (ds : List D) (cls : Value) (dx : Option Addr) : Prop :=
  ∃ C, mg c = some (.ref C) ∧ cls = .ref C ∧ match dx with
    | none => ks = [] ∧ ds = []
    | some x => ∃ vs, H x = some (.xd (ks.zip vs)) ∧ ks.length = ds.length ∧ RepL K μ H ds vs
section
variable (K : PySem.W.Frag) (mg : Str → Option Value) (W : WX) (μ : List Addr) (H : Hp) (σ : L2.St)
/-- it does not fail, and an exception is wanted -/
def Fine {α : Type} (r : Out α) : Prop := match r with
  | .ok _ _ => True
  | .exc c ks ds S' => ∀ cls dx μ' H', Step K mg μ H μ' S' H' → ExcRep K mg μ' H' c ks ds cls dx → W cls dx σ H'
  | .fail => False
end
section
variable {K : PySem.W.Frag} {mg : Str → Option Value} {W : WX} {μ μ1 : List Addr} {H H1 : Hp} {σ : L2.St} {S S1 : Store} {α β : Type} {r : Out α} {f : α → Store → Out β}
theorem Fine.left (h : Fine K mg W μ H σ (r.bind f)) : Fine K mg W μ H σ r := by
  cases r with
  | ok _ _ => trivial
  | exc _ _ _ _ => exact h
  | fail => exact h
theorem Fine.right {a : α} (R : Rel K mg μ S H) (st : Step K mg μ H μ1 S1 H1) (h : Fine K mg W μ H σ (r.bind f)) (e : r = .ok a S1) : Fine K mg W μ1 H1 σ (f a S1) := by
  subst e
  have h : Fine K mg W μ H σ (f a S1) := h
  cases q : f a S1 with
  | ok _ _ => trivial
  | exc _ _ _ _ =>
    rw [q] at h
    exact fun cls dx μ' H' s2 x => h cls dx μ' H' (st.trans R s2) x
  | fail => rw [q] at h; exact h
theorem Fine.back {a : Out α} (R : Rel K mg μ S H) (st : Step K mg μ H μ1 S1 H1) (h : Fine K mg W μ H σ a) : Fine K mg W μ1 H1 σ a := by
  cases a with
  | ok _ _ => trivial
  | exc _ _ _ _ => exact fun cls dx μ' H' s2 x => h cls dx μ' H' (st.trans R s2) x
  | fail => exact h
end

abbrev M (α : Type) := Env' → Store → Out α
/-- what a run of an expression leaves -/
def EvP (X : Cx) (pins : List (Addr × Obj)) (σ : L2.St) (μ : List Addr) (H0 H : Hp) (r : Out D) (u : Value) (s' : Shared) : Prop :=
  ∃ d S' v μ' H', r = .ok d S' ∧ Inv X pins σ H' s' ∧ RelV v u ∧ Step X.K X.mg μ H μ' S' H' ∧ ResOk X.K X.mg μ' H0 H' d v
/-- the judgement -/
structure EvE (X : Cx) (W : WX) (e : Expr) (m : M D) : Prop where
  run : ∀ (pins : List (Addr × Obj)) (s : Shared) (σ : L2.St) (H : Hp) (μ : List Addr) (S : Store) (ρ : Env'), Inv X pins σ H s → Rel X.K X.mg μ S H → EnvOk X.K μ H ρ σ → Fine X.K X.mg W μ H σ (m ρ S) →
    wpAny (model X.prog X.w) X.A (eval e X.env) (EvP X pins σ μ H H (m ρ S)) X.xe s
/-- a test -/
structure EvT (X : Cx) (W : WX) (e : Expr) (m : M Bool) : Prop where
  run : ∀ (pins : List (Addr × Obj)) (s : Shared) (σ : L2.St) (H : Hp) (μ : List Addr) (S : Store) (ρ : Env'), Inv X pins σ H s → Rel X.K X.mg μ S H → EnvOk X.K μ H ρ σ → Fine X.K X.mg W μ H σ (m ρ S) →
    wpAny (model X.prog X.w) X.A (isTrue e X.env (eval e X.env)) (fun b s' => ∃ S' μ' H', m ρ S = .ok b S' ∧ Inv X pins σ H' s' ∧ Step X.K X.mg μ H μ' S' H') X.xe s

section
variable {X : Cx} {W : WX} {e : Expr} {m : M D}
def TM (X : Cx) (W : WX) (m : M D) : TE := fun σ H Q => ∃ μ S ρ, Rel X.K X.mg μ S H ∧ EnvOk X.K μ H ρ σ ∧ Fine X.K X.mg W μ H σ (m ρ S) ∧
  ∀ d S' v μ' H', m ρ S = .ok d S' → Step X.K X.mg μ H μ' S' H' → ResOk X.K X.mg μ' H H' d v → Q v H'
theorem EvE.pe (h : EvE X W e m) : PE X e (TM X W m) := by
  refine ⟨fun pins s σ H Q I ⟨μ, S, ρ, R, E, F, q⟩ => thn (h.run pins s σ H μ S ρ I R E F) fun u s' ⟨d, S', v, μ', H', e, I', r, st, x⟩ => ?_⟩
  exact ⟨v, H', I', r, q d S' v μ' H' e st x⟩
theorem EvE.of_pe {t : TE} (h : PE X e t) (q : ∀ σ H μ S ρ, Rel X.K X.mg μ S H → EnvOk X.K μ H ρ σ → Fine X.K X.mg W μ H σ (m ρ S) →
    t σ H fun v H' => ∃ d S' μ', m ρ S = .ok d S' ∧ Step X.K X.mg μ H μ' S' H' ∧ ResOk X.K X.mg μ' H H' d v) : EvE X W e m := by
  refine ⟨fun pins s σ H μ S ρ I R E F => thn (h.run pins s σ H _ I (q σ H μ S ρ R E F)) fun u s' ⟨v, H', I', r, d, S', μ', e, st, x⟩ => ?_⟩
  exact ⟨d, S', v, μ', H', e, I', r, st, x⟩
def TMt (X : Cx) (W : WX) (m : M Bool) : TT := fun σ H Q => ∃ μ S ρ, Rel X.K X.mg μ S H ∧ EnvOk X.K μ H ρ σ ∧ Fine X.K X.mg W μ H σ (m ρ S) ∧
  ∀ b S' μ' H', m ρ S = .ok b S' → Step X.K X.mg μ H μ' S' H' → Q b H'
theorem EvT.pt {m : M Bool} (h : EvT X W e m) : PT X e (TMt X W m) := by
  refine ⟨fun pins s σ H Q I ⟨μ, S, ρ, R, E, F, q⟩ => thn (h.run pins s σ H μ S ρ I R E F) fun b s' ⟨S', μ', H', e, I', st⟩ => ?_⟩
  exact ⟨H', I', q b S' μ' H' e st⟩
theorem EvT.of_pt {m : M Bool} {t : TT} (h : PT X e t) (q : ∀ σ H μ S ρ, Rel X.K X.mg μ S H → EnvOk X.K μ H ρ σ → Fine X.K X.mg W μ H σ (m ρ S) →
    t σ H fun b H' => ∃ S' μ', m ρ S = .ok b S' ∧ Step X.K X.mg μ H μ' S' H') : EvT X W e m := by
  refine ⟨fun pins s σ H μ S ρ I R E F => thn (h.run pins s σ H _ I (q σ H μ S ρ R E F)) fun b s' ⟨H', I', S', μ', e, st⟩ => ?_⟩
  exact ⟨S', μ', H', e, I', st⟩
end

/-! ### what a value shows -/
/-- a list's items -/
def seqL (S : Store) : D → Option (List D)
  | .lst ds => some ds
  | .fro ds => some ds
  | .ref n => match S[n]? with
    | some (.lst ds) => some ds
    | _ => none
  | _ => none
/-- .. of a list that may be written -/
def seqW (S : Store) : D → Option (List D)
  | .lst ds => some ds
  | .ref n => match S[n]? with
    | some (.lst ds) => some ds
    | _ => none
  | _ => none
def seqT : D → Option (List D)
  | .tup ds => some ds
  | _ => none
def seqA (S : Store) (d : D) : Option (List D) := match seqT d with
  | some ds => some ds
  | none => seqL S d
section
variable {K : PySem.W.Frag} {mg : Str → Option Value} {μ : List Addr} {H0 H : Hp} {S : Store} {d : D} {ds : List D} {v : V}
theorem seqW_ok (R : Rel K mg μ S H) (x : ResOk K mg μ H0 H d v) (e : seqW S d = some ds) : ∃ a vs, v = .ref a ∧ H a = some (.lst vs) ∧ RepL K μ H ds vs := by
  cases d with
  | lst es =>
    cases e
    unfold ResOk at x
    obtain ⟨a, rfl, ⟨C, dx, vs, _, h, _, r⟩, _⟩ := x
    exact ⟨a, vs, rfl, h, r⟩
  | ref n =>
    unfold seqW at e
    dsimp only at e
    split at e
    · rename_i es hn
      cases e
      have x := x.rep rfl
      unfold Rep at x
      obtain ⟨a, ha, rfl⟩ := x
      obtain ⟨C, dx, vs, _, h, _, r⟩ := R.cell n a _ ha hn
      exact ⟨a, vs, rfl, h, r⟩
    · cases e
  | _ => cases e
theorem seqL_ok (R : Rel K mg μ S H) (x : ResOk K mg μ H0 H d v) (e : seqL S d = some ds) : ∃ a vs, v = .ref a ∧ SqL K H a vs ∧ RepL K μ H ds vs := by
  cases d with
  | lst es =>
    obtain ⟨a, vs, e1, h, r⟩ := seqW_ok (ds := ds) R x e
    exact ⟨a, vs, e1, SqL.of h, r⟩
  | ref n =>
    obtain ⟨a, vs, e1, h, r⟩ := seqW_ok (ds := ds) R x e
    exact ⟨a, vs, e1, SqL.of h, r⟩
  | fro es =>
    cases e
    have x := x.rep rfl
    unfold Rep at x
    obtain ⟨a, vs, rfl, h, r⟩ := x
    exact ⟨a, vs, rfl, h.seq, r⟩
  | _ => cases e
theorem seqT_ok (x : ResOk K mg μ H0 H d v) (e : seqT d = some ds) : ∃ a vs, v = .ref a ∧ SqT K H a vs ∧ RepL K μ H ds vs := by
  cases d with
  | tup es =>
    cases e
    have x := x.rep rfl
    unfold Rep at x
    exact x
  | _ => cases e
theorem seqA_ok (R : Rel K mg μ S H) (x : ResOk K mg μ H0 H d v) (e : seqA S d = some ds) : ∃ a vs, v = .ref a ∧ (SqL K H a vs ∨ SqT K H a vs) ∧ RepL K μ H ds vs := by
  unfold seqA at e
  split at e
  · rename_i es h
    cases e
    obtain ⟨a, vs, e1, q, r⟩ := seqT_ok x h
    exact ⟨a, vs, e1, .inr q, r⟩
  · obtain ⟨a, vs, e1, q, r⟩ := seqL_ok R x e
    exact ⟨a, vs, e1, .inl q, r⟩
end

/-! ### equality of data -/
def py (S : Store) : Nat → D → Option PyData
  | 0, _ => none
  | k + 1, d => match d with
    | .non => some .none
    | .bl b => some (.bool b)
    | .int i => some (.int i)
    | .str x => some (.str x)
    | .tup ds => (ds.mapM (py S k)).map .tuple
    | .lst ds => (ds.mapM (py S k)).map .list
    | .fro ds => (ds.mapM (py S k)).map .list
    | .ref n => match S[n]? with
      | some (.lst ds) => (ds.mapM (py S k)).map .list
      | _ => none
    | _ => none
def eqD (S : Store) (d e : D) : Option Bool := match py S 66 d, py S 66 e with
  | some p, some q => if SeqAt.shaped p = true ∧ SeqAt.shaped q = true then some (PyData.eqv p q) else none
  | _, _ => none
section
variable {K : PySem.W.Frag} {mg : Str → Option Value} {μ : List Addr} {H0 H : Hp} {S : Store}
theorem pyAll {k : Nat} (ih : ∀ d p v, py S k d = some p → Rep K μ H d v → Dp K H v p) : ∀ (ds : List D) (ps : List PyData) (vs : List V), ds.mapM (py S k) = some ps → RepL K μ H ds vs → DpAll K H vs ps := by
  intro ds
  induction ds with
  | nil =>
    intro ps vs h r
    rw [RepL.nil_iff] at r
    subst r
    cases h
    exact .nil
  | cons d ds ih2 =>
    intro ps vs h r
    obtain ⟨v, w, rfl, r1, r2⟩ := RepL.cons_iff.mp r
    rw [List.mapM_cons] at h
    cases h1 : py S k d with
    | none => rw [h1] at h; cases h
    | some p =>
      cases h2 : ds.mapM (py S k) with
      | none => rw [h1, h2] at h; cases h
      | some qs =>
        rw [h1, h2] at h
        cases h
        exact .cons (ih d p v h1 r1) (ih2 qs w h2 r2)
theorem py_ok (R : Rel K mg μ S H) : ∀ (k : Nat) (d : D) (p : PyData) (v : V), py S k d = some p → ResOk K mg μ H0 H d v → Dp K H v p := by
  intro k
  induction k with
  | zero => intro d p v h; cases h
  | succ k ih =>
    intro d p v h x
    have ih' : ∀ d p v, py S k d = some p → Rep K μ H d v → Dp K H v p := fun d p v h r => ih d p v h (ResOk.plain r)
    unfold py at h
    cases d with
    | non => cases h; have x := x.rep rfl; unfold Rep at x; subst x; exact .non
    | bl b => cases h; have x := x.rep rfl; unfold Rep at x; subst x; exact .bl b
    | int b => cases h; have x := x.rep rfl; unfold Rep at x; subst x; exact .int b
    | str b => cases h; have x := x.rep rfl; unfold Rep at x; subst x; exact .str b
    | tup ds =>
      dsimp only at h
      cases h1 : ds.mapM (py S k) with
      | none => rw [h1] at h; cases h
      | some ps =>
        rw [h1] at h; cases h
        obtain ⟨a, vs, rfl, q, r⟩ := seqT_ok x rfl
        exact .tup q (pyAll ih' ds ps vs h1 r)
    | lst ds =>
      dsimp only at h
      cases h1 : ds.mapM (py S k) with
      | none => rw [h1] at h; cases h
      | some ps =>
        rw [h1] at h; cases h
        obtain ⟨a, vs, rfl, q, r⟩ := seqL_ok (ds := ds) R x rfl
        exact .lst q (pyAll ih' ds ps vs h1 r)
    | fro ds =>
      dsimp only at h
      cases h1 : ds.mapM (py S k) with
      | none => rw [h1] at h; cases h
      | some ps =>
        rw [h1] at h; cases h
        obtain ⟨a, vs, rfl, q, r⟩ := seqL_ok (ds := ds) R x rfl
        exact .lst q (pyAll ih' ds ps vs h1 r)
    | ref n =>
      dsimp only at h
      cases hn : S[n]? with
      | none => rw [hn] at h; cases h
      | some c =>
        rw [hn] at h
        cases c with
        | lst ds =>
          dsimp only at h
          cases h1 : ds.mapM (py S k) with
          | none => rw [h1] at h; cases h
          | some ps =>
            rw [h1] at h; cases h
            obtain ⟨a, vs, rfl, q, r⟩ := seqL_ok (ds := ds) R x (by unfold seqL; dsimp only; rw [hn])
            exact .lst q (pyAll ih' ds ps vs h1 r)
        | _ => cases h
    | _ => cases h
end
end Ev
/-! Ev3: operators by values, argument lists, expressions put together. -/
namespace Ev
open PySem PySem.Spec PyProof.Rows L2

/-- a two-place operation on values, the store unchanged -/
def OpD (X : Cx) (f : Value → Value → Sem Value) (g : D → D → Store → Option D) : Prop :=
  ∀ (pins : List (Addr × Obj)) (s : Shared) (σ : L2.St) (H : Hp) (μ : List Addr) (S : Store) (H0 : Hp) (d e : D) (v w : V) (u1 u2 : Value) (r : D), Inv X pins σ H s → Rel X.K X.mg μ S H → ResOk X.K X.mg μ H0 H d v → ResOk X.K X.mg μ H0 H e w →
    RelV v u1 → RelV w u2 → g d e S = some r →
    wpAny (model X.prog X.w) X.A (f u1 u2) (fun u s' => ∃ v' H', Inv X pins σ H' s' ∧ RelV v' u ∧ Step X.K X.mg μ H μ S H' ∧ ResOk X.K X.mg μ H H' r v') X.xe s
def mBin (g : D → D → Store → Option D) (ma mb : M D) : M D := fun ρ S => (ma ρ S).bind fun d S1 => (mb ρ S1).bind fun e S2 => Out.of (g d e S2) S2
section
variable {X : Cx} {W : WX}
theorem fine_of {K : PySem.W.Frag} {mg : Str → Option Value} {W : WX} {μ : List Addr} {H : Hp} {σ : L2.St} {α : Type} {o : Option α} {S : Store} (h : Fine K mg W μ H σ (Out.of o S)) : ∃ a, o = some a := by
  cases o with
  | none => exact h.elim
  | some a => exact ⟨a, rfl⟩
/-- two expressions, then an operation -/
theorem bin_run {a b : Expr} {ma mb : M D} {f : Value → Value → Sem Value} {g : D → D → Store → Option D} (ha : EvE X W a ma) (hb : EvE X W b mb) (ho : OpD X f g)
    {pins : List (Addr × Obj)} {s : Shared} {σ : L2.St} {H : Hp} {μ : List Addr} {S : Store} {ρ : Env'} (I : Inv X pins σ H s) (R : Rel X.K X.mg μ S H) (E : EnvOk X.K μ H ρ σ) (F : Fine X.K X.mg W μ H σ (mBin g ma mb ρ S)) :
    wpAny (model X.prog X.w) X.A (eval a X.env) (fun v s₁ => wpAny (model X.prog X.w) X.A (eval b X.env) (fun u s₂ => wpAny (model X.prog X.w) X.A (f v u) (EvP X pins σ μ H H (mBin g ma mb ρ S)) X.xe s₂) X.xe s₁) X.xe s := by
  refine thn (ha.run pins s σ H μ S ρ I R E F.left) fun u1 s1 ⟨d1, S1, v1, μ1, H1, e1, I1, r1, st1, x1⟩ => ?_
  have R1 := st1.rel
  have F1 : Fine X.K X.mg W μ1 H1 σ ((mb ρ S1).bind fun e S2 => Out.of (g d1 e S2) S2) := Fine.right (f := fun d S1 => (mb ρ S1).bind fun e S2 => Out.of (g d e S2) S2) R st1 F e1
  refine thn (hb.run pins s1 σ H1 μ1 S1 ρ I1 R1 (E.step R st1) F1.left) fun u2 s2 ⟨d2, S2, v2, μ2, H2, e2, I2, r2, st2, x2⟩ => ?_
  have R2 := st2.rel
  have F2 : Fine X.K X.mg W μ2 H2 σ (Out.of (g d1 d2 S2) S2) := Fine.right (f := fun e S2 => Out.of (g d1 e S2) S2) R1 st2 F1 e2
  obtain ⟨r, er⟩ := fine_of F2
  have st12 := st1.trans R st2
  refine thn (ho pins s2 σ H2 μ2 S2 H d1 d2 v1 v2 u1 u2 r I2 R2 (x1.step R1 st2) (x2.back R st1) r1 r2 er) fun u s' ⟨v', H', I', r', st', x'⟩ => ?_
  refine ⟨r, S2, v', μ2, H', ?_, I', r', st12.trans R st', x'.back R st12⟩
  unfold mBin
  rw [e1, bind_ok, e2, bind_ok, er]
  rfl
theorem OpD.of {f : Value → Value → Sem Value} {r : R2} {g : D → D → Store → Option D} (ho : OpR X f r)
    (q : ∀ (H : Hp) (μ : List Addr) (S : Store) (H0 : Hp) (d e : D) (v w : V) (res : D), Rel X.K X.mg μ S H → ResOk X.K X.mg μ H0 H d v → ResOk X.K X.mg μ H0 H e w → g d e S = some res →
      r v w H fun v' H' => Step X.K X.mg μ H μ S H' ∧ ResOk X.K X.mg μ H H' res v') : OpD X f g := by
  intro pins s σ H μ S H0 d e v w u1 u2 res I R x1 x2 r1 r2 eg
  exact thn (ho pins s σ H v w u1 u2 _ I r1 r2 (q H μ S H0 d e v w res R x1 x2 eg)) fun u s' ⟨v', H', I', r', st, x⟩ => ⟨v', H', I', r', st, x⟩
theorem OpD.or {f : Value → Value → Sem Value} {g g' : D → D → Store → Option D} (h : OpD X f g) (h' : OpD X f g') : OpD X f (fun d e S => match g d e S with | some r => some r | none => g' d e S) := by
  intro pins s σ H μ S H0 d e v w u1 u2 res I R x1 x2 r1 r2 eg
  dsimp only at eg
  split at eg
  · rename_i r hr
    cases eg
    exact h pins s σ H μ S H0 d e v w u1 u2 _ I R x1 x2 r1 r2 hr
  · exact h' pins s σ H μ S H0 d e v w u1 u2 res I R x1 x2 r1 r2 eg

/-! ### plain scalars -/
theorem rep_int {K : PySem.W.Frag} {mg : Str → Option Value} {μ : List Addr} {H0 H : Hp} {i : Int} {v : V} (x : ResOk K mg μ H0 H (.int i) v) : v = .int i := by
  have x := x.rep rfl; unfold Rep at x; exact x
theorem rep_bl {K : PySem.W.Frag} {mg : Str → Option Value} {μ : List Addr} {H0 H : Hp} {i : Bool} {v : V} (x : ResOk K mg μ H0 H (.bl i) v) : v = .bl i := by
  have x := x.rep rfl; unfold Rep at x; exact x
theorem rep_str {K : PySem.W.Frag} {mg : Str → Option Value} {μ : List Addr} {H0 H : Hp} {i : Str} {v : V} (x : ResOk K mg μ H0 H (.str i) v) : v = .str i := by
  have x := x.rep rfl; unfold Rep at x; exact x
theorem rep_non {K : PySem.W.Frag} {mg : Str → Option Value} {μ : List Addr} {H0 H : Hp} {v : V} (x : ResOk K mg μ H0 H .non v) : v = .non := by
  have x := x.rep rfl; unfold Rep at x; exact x
theorem res_int {K : PySem.W.Frag} {mg : Str → Option Value} {μ : List Addr} {H0 H : Hp} {i : Int} : ResOk K mg μ H0 H (.int i) (.int i) := ResOk.plain (by unfold Rep; rfl)
theorem res_bl {K : PySem.W.Frag} {mg : Str → Option Value} {μ : List Addr} {H0 H : Hp} {i : Bool} : ResOk K mg μ H0 H (.bl i) (.bl i) := ResOk.plain (by unfold Rep; rfl)
theorem res_str {K : PySem.W.Frag} {mg : Str → Option Value} {μ : List Addr} {H0 H : Hp} {i : Str} : ResOk K mg μ H0 H (.str i) (.str i) := ResOk.plain (by unfold Rep; rfl)
theorem res_non {K : PySem.W.Frag} {mg : Str → Option Value} {μ : List Addr} {H0 H : Hp} : ResOk K mg μ H0 H .non .non := ResOk.plain (by unfold Rep; rfl)

/-! ### arithmetic -/
/-- within bounds: no Decidable of their own, so that nothing counts down -/
structure In62 (j : Int) : Prop where
  lo : -(2 ^ 62) ≤ j
  hi : j < 2 ^ 62
structure In63 (j : Int) : Prop where
  lo : -(2 ^ 63) ≤ j
  hi : j < 2 ^ 63
structure InDm (j : Int) : Prop where
  lo : 0 < j
  hi : j < 1073741824
open Classical in
noncomputable def intC (C : Int → Int → Prop) (g : Int → Int → Int) (d e : D) (_ : Store) : Option D := match d, e with
  | .int i, .int j => if C i j then some (.int (g i j)) else none
  | _, _ => none
@[simp] theorem intC_int {C : Int → Int → Prop} {g : Int → Int → Int} {i j : Int} {S : Store} : intC C g (.int i) (.int j) S = @ite _ (C i j) (Classical.propDecidable _) (some (.int (g i j))) none := (rfl)
def addD (d e : D) (S : Store) : Option D := match d, e with
  | .int i, .int j => some (.int (i + j))
  | .int i, .bl b => some (.int (i + b2i b))
  | .str x, .str y => if x.length + y.length ≤ sizeLine then some (.str (x ++ y)) else none
  | .tup xs, .tup ys => if xs.length + ys.length ≤ sizeLine then some (.tup (xs ++ ys)) else none
  | d, e => match seqW S d, seqW S e with
    | some xs, some ys => if xs.length + ys.length ≤ sizeLine then some (.lst (xs ++ ys)) else none
    | _, _ => none
open Classical in
noncomputable def mulD (d e : D) (S : Store) : Option D := match d, e with
  | .int i, .int j => if i.natAbs.log2 + j.natAbs.log2 < 1000000 then some (.int (i * j)) else none
  | .tup xs, .int k => if xs ≠ [] ∧ 2 ≤ k ∧ k ≤ 1000 ∧ xs.length ≤ 1000 then some (.tup (List.replicate k.toNat xs).flatten) else none
  | d, .int k => match seqW S d with
    | some xs => if In63 k ∧ xs.length * k.toNat ≤ sizeLine then some (.lst (List.replicate k.toNat xs).flatten) else none
    | none => none
  | _, _ => none
def noD (_ _ : D) (_ : Store) : Option D := none
noncomputable def binD : Operator → D → D → Store → Option D
  | .Add => addD
  | .Sub => intC (fun _ _ => True) (fun i j => i - j)
  | .Mult => mulD
  | .FloorDiv => intC (fun _ j => 0 < j ∧ j.natAbs.log2 < 9000) (fun i j => i / j)
  | .Mod => intC (fun _ j => 0 < j) (fun i j => i % j)
  | .Pow => intC (fun i j => 0 ≤ j ∧ j ≤ 1000000 ∧ i.natAbs < 2 ^ 64) (fun i j => i ^ j.toNat)
  | .LShift => intC (fun i j => 0 ≤ j ∧ j ≤ 1000000 ∧ i.natAbs < 2 ^ 64) (fun i j => i * 2 ^ j.toNat)
  | .RShift => intC (fun _ j => 0 ≤ j) (fun i j => i / 2 ^ j.toNat)
  | .BitAnd => intC (fun _ _ => True) Builtin.bitAnd
  | .BitOr => intC (fun _ _ => True) Builtin.bitOr
  | .BitXor => intC (fun _ _ => True) Builtin.bitXor
  | .Div => noD
  | .MatMult => noD

/-- ints in, an int out -/
theorem binI {f : Value → Value → Sem Value} {C : Int → Int → Prop} {g : Int → Int → Int} (ho : OpR X f (rI C fun i j => .int (g i j))) : OpD X f (intC C g) := by
  refine OpD.of ho fun H μ S H0 d e v w res R x1 x2 eg => ?_
  unfold intC at eg
  split at eg
  · rename_i i j
    split at eg
    · rename_i hc
      cases eg
      exact ⟨i, j, rep_int x1, rep_int x2, hc, Step.refl R, res_int⟩
    · cases eg
  · cases eg
theorem binI0 {f : Value → Value → Sem Value} {g : Int → Int → Int} (ho : OpR X f (rI0 fun i j => .int (g i j))) : OpD X f (intC (fun _ _ => True) g) := by
  refine OpD.of ho fun H μ S H0 d e v w res R x1 x2 eg => ?_
  unfold intC at eg
  split at eg
  · rename_i i j
    rw [if_pos trivial] at eg
    cases eg
    exact ⟨i, j, rep_int x1, rep_int x2, Step.refl R, res_int⟩
  · cases eg
theorem noD_ok {f : Value → Value → Sem Value} : OpD X f noD := by
  intro pins s σ H μ S H0 d e v w u1 u2 res I R x1 x2 r1 r2 eg
  cases eg

theorem repL_flat {K : PySem.W.Frag} {μ : List Addr} {H : Hp} {ds : List D} {vs : List V} (r : RepL K μ H ds vs) : ∀ k : Nat, RepL K μ H (List.replicate k ds).flatten (List.replicate k vs).flatten
  | 0 => RepL.nil
  | k + 1 => by
    rw [List.replicate_succ, List.replicate_succ, List.flatten_cons, List.flatten_cons]
    exact r.append (repL_flat r k)

theorem op_addD : OpD X (binaryOp .Add) addD := by
  intro pins s σ H μ S H0 d e v w u1 u2 res I R x1 x2 r1 r2 eg
  unfold addD at eg
  split at eg
  · cases eg
    cases rep_int x1; cases rep_int x2
    exact thn (op_add pins s σ H _ _ u1 u2 (fun v' H' => Step X.K X.mg μ H μ S H' ∧ ResOk X.K X.mg μ H H' _ v') I r1 r2 ⟨_, _, rfl, rfl, Step.refl R, res_int⟩) fun u s' ⟨v', H', I', r', st, x⟩ => ⟨v', H', I', r', st, x⟩
  · cases eg
    cases rep_int x1; cases rep_bl x2
    exact thn (op_add_ib pins s σ H _ _ u1 u2 (fun v' H' => Step X.K X.mg μ H μ S H' ∧ ResOk X.K X.mg μ H H' _ v') I r1 r2 ⟨_, _, rfl, rfl, Step.refl R, res_int⟩) fun u s' ⟨v', H', I', r', st, x⟩ => ⟨v', H', I', r', st, x⟩
  · split at eg
    · cases eg
      cases rep_str x1; cases rep_str x2
      exact thn (op_add_str pins s σ H _ _ u1 u2 (fun v' H' => Step X.K X.mg μ H μ S H' ∧ ResOk X.K X.mg μ H H' _ v') I r1 r2 ⟨_, _, rfl, rfl, by assumption, Step.refl R, res_str⟩) fun u s' ⟨v', H', I', r', st, x⟩ => ⟨v', H', I', r', st, x⟩
    · cases eg
  · rename_i xs ys
    split at eg
    · rename_i hz
      cases eg
      obtain ⟨a, vs, rfl, q1, l1⟩ := seqT_ok x1 rfl
      obtain ⟨b, us, rfl, q2, l2⟩ := seqT_ok x2 rfl
      refine thn (op_catA pins s σ H _ _ u1 u2 (fun v' H' => Step X.K X.mg μ H μ S H' ∧ ResOk X.K X.mg μ H H' (.tup (xs ++ ys)) v') I r1 r2 ⟨a, b, vs, us, rfl, rfl, q1, q2, by rw [← l1.length, ← l2.length]; exact hz, fun z => ?_, fun _ z => ?_, fun _ _ p hp => ?_⟩) fun u s' ⟨v', H', I', r', st, x⟩ => ⟨v', H', I', r', st, x⟩
      · subst z
        have : xs = [] := List.length_eq_zero_iff.mp l1.length
        subst this
        exact ⟨Step.refl R, ResOk.plain (by unfold Rep; exact ⟨b, us, rfl, q2, l2⟩)⟩
      · subst z
        have : ys = [] := List.length_eq_zero_iff.mp l2.length
        subst this
        exact ⟨Step.refl R, ResOk.plain (by rw [List.append_nil]; unfold Rep; exact ⟨a, vs, rfl, q1, l1⟩)⟩
      · exact ⟨Step.fresh R hp, new_tup R hp (l1.append l2)⟩
    · cases eg
  · split at eg
    · rename_i xs ys h1 h2
      split at eg
      · rename_i hz
        cases eg
        obtain ⟨a, vs, rfl, q1, l1⟩ := seqW_ok R x1 h1
        obtain ⟨b, us, rfl, q2, l2⟩ := seqW_ok R x2 h2
        refine thn (op_cat pins s σ H _ _ u1 u2 (fun v' H' => Step X.K X.mg μ H μ S H' ∧ ResOk X.K X.mg μ H H' (.lst (xs ++ ys)) v') I r1 r2 ⟨a, b, vs, us, rfl, rfl, q1, q2, by rw [← l1.length, ← l2.length]; exact hz, fun p hp => ?_⟩) fun u s' ⟨v', H', I', r', st, x⟩ => ⟨v', H', I', r', st, x⟩
        exact ⟨Step.fresh R hp, new_lst R hp (l1.append l2)⟩
      · cases eg
    · cases eg
theorem op_multD : OpD X (binaryOp .Mult) mulD := by
  intro pins s σ H μ S H0 d e v w u1 u2 res I R x1 x2 r1 r2 eg
  unfold mulD at eg
  split at eg
  · split at eg
    · rename_i hc
      cases eg
      cases rep_int x1; cases rep_int x2
      exact thn (op_mulW pins s σ H _ _ u1 u2 (fun v' H' => Step X.K X.mg μ H μ S H' ∧ ResOk X.K X.mg μ H H' _ v') I r1 r2 ⟨_, _, rfl, rfl, hc, Step.refl R, res_int⟩) fun u s' ⟨v', H', I', r', st, x⟩ => ⟨v', H', I', r', st, x⟩
    · cases eg
  · split at eg
    · rename_i xs k hz
      cases eg
      obtain ⟨a, vs, rfl, q1, l1⟩ := seqT_ok x1 rfl
      cases rep_int x2
      have hv : vs ≠ [] := fun e => hz.1 (List.eq_nil_of_length_eq_zero (by rw [l1.length, e]; rfl))
      refine thn (op_repT pins s σ H _ _ u1 u2 (fun v' H' => Step X.K X.mg μ H μ S H' ∧ ResOk X.K X.mg μ H H' (.tup (List.replicate _ xs).flatten) v') I r1 r2 ⟨a, _, vs, rfl, rfl, q1, hv, hz.2.1, hz.2.2.1, by rw [← l1.length]; exact hz.2.2.2, fun p hp => ?_⟩) fun u s' ⟨v', H', I', r', st, x⟩ => ⟨v', H', I', r', st, x⟩
      exact ⟨Step.fresh R hp, new_tup R hp (repL_flat l1 _)⟩
    · cases eg
  · split at eg
    · rename_i xs h1
      split at eg
      · rename_i hz
        cases eg
        obtain ⟨a, vs, rfl, q1, l1⟩ := seqW_ok R x1 h1
        cases rep_int x2
        refine thn (op_rep pins s σ H _ _ u1 u2 (fun v' H' => Step X.K X.mg μ H μ S H' ∧ ResOk X.K X.mg μ H H' (.lst (List.replicate _ xs).flatten) v') I r1 r2 ⟨a, _, vs, rfl, rfl, q1, hz.1.lo, hz.1.hi, by rw [← l1.length]; exact hz.2, fun p hp => ?_⟩) fun u s' ⟨v', H', I', r', st, x⟩ => ⟨v', H', I', r', st, x⟩
        exact ⟨Step.fresh R hp, new_lst R hp (repL_flat l1 _)⟩
      · cases eg
    · cases eg
  · cases eg
theorem binD_ok : ∀ op : Operator, OpD X (binaryOp op) (binD op)
  | .Add => op_addD
  | .Mult => op_multD
  | .Sub => binI0 op_sub
  | .FloorDiv => binI op_fdivW
  | .Mod => binI op_mod
  | .Pow => binI op_pow
  | .LShift => binI op_shl
  | .RShift => binI op_shr
  | .BitAnd => binI0 op_and
  | .BitOr => binI0 op_or
  | .BitXor => binI0 op_xor
  | .Div => noD_ok
  | .MatMult => noD_ok
theorem ev_bin {a b : Expr} {op : Operator} {pos : Pos} {ma mb : M D} (ha : EvE X W a ma) (hb : EvE X W b mb) : EvE X W (.BinOp a op b pos) (mBin (binD op) ma mb) :=
  ⟨fun pins s σ H μ S ρ I R E F => wpAny_BinOp (bin_run ha hb (binD_ok op) I R E F)⟩

/-! ### comparisons -/
def eqC (neg : Bool) (d e : D) (S : Store) : Option D := match eqD S d e with
  | some b => some (.bl (if neg then !b else b))
  | none => none
def intB (p : Int → Int → Bool) (d e : D) (_ : Store) : Option D := match d, e with
  | .int i, .int j => some (.bl (p i j))
  | _, _ => none
@[simp] theorem intB_int {p : Int → Int → Bool} {i j : Int} {S : Store} : intB p (.int i) (.int j) S = some (.bl (p i j)) := rfl
def intsD : List D → Option (List Int)
  | [] => some []
  | .int i :: ds => match intsD ds with
    | some ns => some (i :: ns)
    | none => none
  | _ :: _ => none
def ltD (d e : D) (S : Store) : Option D := match d, e with
  | .int i, .int j => some (.bl (decide (i < j)))
  | .str x, .str y => some (.bl (decide (x.cps.toList < y.cps.toList)))
  | .tup xs, .tup ys => match intsD xs, intsD ys with
    | some ns, some ms => some (.bl (HT.lexLt ns ms))
    | _, _ => none
  | _, _ => none
/-- flat values, as they are -/
def flatD : D → Option V
  | .non => some .non
  | .bl b => some (.bl b)
  | .int i => some (.int i)
  | .str x => some (.str x)
  | _ => none
def inD (neg : Bool) (d e : D) (S : Store) : Option D := match d, e with
  | .str x, .str y => some (.bl (if neg then !(!(Builtin.Str.occurrences y x 0 y.length 1).isEmpty) else !(Builtin.Str.occurrences y x 0 y.length 1).isEmpty))
  | d, e => match flatD d, seqA S e with
    | some v, some ds => match ds.mapM flatD with
      | some vs => some (.bl (if neg then !inV v vs else inV v vs))
      | none => none
    | _, _ => none
def isD (neg : Bool) (d e : D) (_ : Store) : Option D := match e with
  | .non => match d with
    | .non => some (.bl (!neg))
    | _ => some (.bl neg)
  | .bl b => match d with
    | .bl c => some (.bl (if neg then !(c == b) else c == b))
    | _ => some (.bl neg)
  | _ => none
def cmpD : CmpOp → D → D → Store → Option D
  | .Eq => eqC false
  | .NotEq => eqC true
  | .Lt => ltD
  | .LtE => intB fun i j => decide (i ≤ j)
  | .Gt => intB fun i j => decide (j < i)
  | .GtE => intB fun i j => decide (j ≤ i)
  | .Is => isD false
  | .IsNot => isD true
  | .In => inD false
  | .NotIn => inD true

theorem intsD_ok {K : PySem.W.Frag} {μ : List Addr} {H : Hp} : ∀ {ds : List D} {ns : List Int} {vs : List V}, intsD ds = some ns → RepL K μ H ds vs → vs = ns.map V.int := by
  intro ds
  induction ds with
  | nil => intro ns vs h r; cases h; rw [RepL.nil_iff] at r; subst r; rfl
  | cons d ds ih =>
    intro ns vs h r
    obtain ⟨v, w, rfl, r1, r2⟩ := RepL.cons_iff.mp r
    cases d with
    | int i =>
      unfold intsD at h
      split at h
      · rename_i ms hm
        cases h
        unfold Rep at r1
        rw [r1, ih hm r2]; rfl
      · cases h
    | _ => cases h
theorem flatD_ok {K : PySem.W.Frag} {mg : Str → Option Value} {μ : List Addr} {H0 H : Hp} {d : D} {v w : V} (h : flatD d = some v) (x : ResOk K mg μ H0 H d w) : w = v ∧ flatV v = true := by
  cases d with
  | non => cases h; exact ⟨rep_non x, rfl⟩
  | bl _ => cases h; exact ⟨rep_bl x, rfl⟩
  | int _ => cases h; exact ⟨rep_int x, rfl⟩
  | str _ => cases h; exact ⟨rep_str x, rfl⟩
  | _ => cases h
theorem flatL_ok {K : PySem.W.Frag} {μ : List Addr} {H : Hp} : ∀ {ds : List D} {us vs : List V}, ds.mapM flatD = some us → RepL K μ H ds vs → vs = us ∧ us.all flatV = true := by
  intro ds
  induction ds with
  | nil => intro us vs h r; rw [List.mapM_nil] at h; cases h; rw [RepL.nil_iff] at r; subst r; exact ⟨rfl, rfl⟩
  | cons d ds ih =>
    intro us vs h r
    obtain ⟨v, w, rfl, r1, r2⟩ := RepL.cons_iff.mp r
    rw [List.mapM_cons] at h
    cases h1 : flatD d with
    | none => rw [h1] at h; cases h
    | some u =>
      cases h2 : ds.mapM flatD with
      | none => rw [h1, h2] at h; cases h
      | some ws =>
        rw [h1, h2] at h
        cases h
        obtain ⟨e1, f1⟩ := flatD_ok (mg := fun _ => none) (H0 := H) h1 (ResOk.plain r1)
        obtain ⟨e2, f2⟩ := ih h2 r2
        exact ⟨by rw [e1, e2], by rw [List.all_cons, f1, f2]; rfl⟩
theorem is_bool_gen {M : Model} {A : Around} {E : Value → Shared → Prop} {s : Shared} {Q : Value → Shared → Prop} {x : V} {v : Value} {b : Bool} (r : RelV x v) (h : Q (.bool (decide (x = .bl b))) s) : wpAny M A (compareOp .Is v (.bool b)) Q E s := by
  have e : decide (x = .bl b) = (v == Value.bool b) := by
    cases x <;> first
      | (cases r; rfl)
      | (obtain ⟨t, rfl⟩ := r; rfl)
      | (cases r; rw [Bool.eq_iff_iff]; simp)
  rw [e] at h
  cases x <;> first
    | (cases r; exact wpAny_pure h)
    | (obtain ⟨t, rfl⟩ := r; exact wpAny_pure h)
theorem isnot_bool_gen {M : Model} {A : Around} {E : Value → Shared → Prop} {s : Shared} {Q : Value → Shared → Prop} {x : V} {v : Value} {b : Bool} (r : RelV x v) (h : Q (.bool (!decide (x = .bl b))) s) : wpAny M A (compareOp .IsNot v (.bool b)) Q E s := by
  have e : decide (x = .bl b) = (v == Value.bool b) := by
    cases x <;> first
      | (cases r; rfl)
      | (obtain ⟨t, rfl⟩ := r; rfl)
      | (cases r; rw [Bool.eq_iff_iff]; simp)
  rw [e] at h
  cases x <;> first
    | (cases r; exact wpAny_pure h)
    | (obtain ⟨t, rfl⟩ := r; exact wpAny_pure h)

theorem fin_bool {pins : List (Addr × Obj)} {σ : L2.St} {H H0 : Hp} {s : Shared} {μ : List Addr} {S : Store} {k : Bool} (I : Inv X pins σ H s) (R : Rel X.K X.mg μ S H) :
    ∃ v' H', Inv X pins σ H' s ∧ RelV v' (.bool k) ∧ Step X.K X.mg μ H μ S H' ∧ ResOk X.K X.mg μ H H' (.bl k) v' := ⟨.bl k, H, I, rfl, Step.refl R, res_bl⟩
theorem eqC_ok (hu : X.A.units + 64 < cLine) : OpD X (compareOp .Eq) (eqC false) := by
  refine OpD.of (op_eqD hu) fun H μ S H0 d e v w res R x1 x2 eg => ?_
  unfold eqC at eg
  split at eg
  · rename_i b hb
    cases eg
    unfold eqD at hb
    split at hb
    · rename_i p q h1 h2
      split at hb
      · rename_i hs
        cases hb
        exact ⟨p, q, py_ok R _ _ _ _ h1 x1, py_ok R _ _ _ _ h2 x2, hs.1, hs.2, Step.refl R, res_bl⟩
      · cases hb
    · cases hb
  · cases eg
theorem neC_ok (hu : X.A.units + 64 < cLine) : OpD X (compareOp .NotEq) (eqC true) := by
  refine OpD.of (op_neD hu) fun H μ S H0 d e v w res R x1 x2 eg => ?_
  unfold eqC at eg
  split at eg
  · rename_i b hb
    cases eg
    unfold eqD at hb
    split at hb
    · rename_i p q h1 h2
      split at hb
      · rename_i hs
        cases hb
        exact ⟨p, q, py_ok R _ _ _ _ h1 x1, py_ok R _ _ _ _ h2 x2, hs.1, hs.2, Step.refl R, res_bl⟩
      · cases hb
    · cases hb
  · cases eg
theorem intB_ok {f : Value → Value → Sem Value} {p : Int → Int → Bool} (ho : OpR X f (rI0 fun i j => .bl (p i j))) : OpD X f (intB p) := by
  refine OpD.of ho fun H μ S H0 d e v w res R x1 x2 eg => ?_
  unfold intB at eg
  split at eg
  · rename_i i j
    cases eg
    exact ⟨i, j, rep_int x1, rep_int x2, Step.refl R, res_bl⟩
  · cases eg
theorem ltD_ok (hu : X.A.units + 64 < cLine) : OpD X (compareOp .Lt) ltD := by
  intro pins s σ H μ S H0 d e v w u1 u2 res I R x1 x2 r1 r2 eg
  unfold ltD at eg
  split at eg
  · cases eg
    cases rep_int x1; cases rep_int x2
    exact thn (op_lt pins s σ H _ _ u1 u2 (fun v' H' => Step X.K X.mg μ H μ S H' ∧ ResOk X.K X.mg μ H H' _ v') I r1 r2 ⟨_, _, rfl, rfl, Step.refl R, res_bl⟩) fun u s' ⟨v', H', I', r', st, x⟩ => ⟨v', H', I', r', st, x⟩
  · cases eg
    cases rep_str x1; cases rep_str x2
    exact thn (op_lt_str pins s σ H _ _ u1 u2 (fun v' H' => Step X.K X.mg μ H μ S H' ∧ ResOk X.K X.mg μ H H' _ v') I r1 r2 ⟨_, _, rfl, rfl, Step.refl R, res_bl⟩) fun u s' ⟨v', H', I', r', st, x⟩ => ⟨v', H', I', r', st, x⟩
  · split at eg
    · rename_i ns ms h1 h2
      cases eg
      obtain ⟨a, vs, rfl, q1, l1⟩ := seqT_ok x1 rfl
      obtain ⟨b, us, rfl, q2, l2⟩ := seqT_ok x2 rfl
      cases intsD_ok h1 l1; cases intsD_ok h2 l2
      exact thn (op_ltT (by omega) pins s σ H _ _ u1 u2 (fun v' H' => Step X.K X.mg μ H μ S H' ∧ ResOk X.K X.mg μ H H' _ v') I r1 r2 ⟨_, _, _, _, rfl, rfl, q1, q2, Step.refl R, res_bl⟩) fun u s' ⟨v', H', I', r', st, x⟩ => ⟨v', H', I', r', st, x⟩
    · cases eg
  · cases eg
theorem inD_ok : OpD X (compareOp .In) (inD false) := by
  intro pins s σ H μ S H0 d e v w u1 u2 res I R x1 x2 r1 r2 eg
  unfold inD at eg
  split at eg
  · cases eg
    cases rep_str x1; cases rep_str x2
    exact thn (op_in_str pins s σ H _ _ u1 u2 (fun v' H' => Step X.K X.mg μ H μ S H' ∧ ResOk X.K X.mg μ H H' _ v') I r1 r2 ⟨_, _, rfl, rfl, Step.refl R, res_bl⟩) fun u s' ⟨v', H', I', r', st, x⟩ => ⟨v', H', I', r', st, x⟩
  · split at eg
    · rename_i x ds h1 h2
      split at eg
      · rename_i vs h3
        cases eg
        obtain ⟨rfl, f1⟩ := flatD_ok h1 x1
        obtain ⟨a, us, rfl, q, l⟩ := seqA_ok R x2 h2
        obtain ⟨rfl, f2⟩ := flatL_ok h3 l
        exact thn (op_in_seq pins s σ H _ _ u1 u2 (fun v' H' => Step X.K X.mg μ H μ S H' ∧ ResOk X.K X.mg μ H H' _ v') I r1 r2 ⟨_, _, rfl, q, f1, f2, Step.refl R, res_bl⟩) fun u s' ⟨v', H', I', r', st, x⟩ => ⟨v', H', I', r', st, x⟩
      · cases eg
    · cases eg
theorem notInD_ok : OpD X (compareOp .NotIn) (inD true) := by
  intro pins s σ H μ S H0 d e v w u1 u2 res I R x1 x2 r1 r2 eg
  unfold inD at eg
  split at eg
  · cases eg
    cases rep_str x1; cases rep_str x2
    exact thn (op_notIn_str pins s σ H _ _ u1 u2 (fun v' H' => Step X.K X.mg μ H μ S H' ∧ ResOk X.K X.mg μ H H' _ v') I r1 r2 ⟨_, _, rfl, rfl, Step.refl R, res_bl⟩) fun u s' ⟨v', H', I', r', st, x⟩ => ⟨v', H', I', r', st, x⟩
  · split at eg
    · rename_i x ds h1 h2
      split at eg
      · rename_i vs h3
        cases eg
        obtain ⟨rfl, f1⟩ := flatD_ok h1 x1
        obtain ⟨a, us, rfl, q, l⟩ := seqA_ok R x2 h2
        obtain ⟨rfl, f2⟩ := flatL_ok h3 l
        exact thn (op_notIn_seq pins s σ H _ _ u1 u2 (fun v' H' => Step X.K X.mg μ H μ S H' ∧ ResOk X.K X.mg μ H H' _ v') I r1 r2 ⟨_, _, rfl, q, f1, f2, Step.refl R, res_bl⟩) fun u s' ⟨v', H', I', r', st, x⟩ => ⟨v', H', I', r', st, x⟩
      · cases eg
    · cases eg
/-- never none, never a truth -/
theorem res_ref {K : PySem.W.Frag} {mg : Str → Option Value} {μ : List Addr} {H0 H : Hp} {d : D} {v : V} (x : ResOk K mg μ H0 H d v) :
    (d = .non ∧ v = .non) ∨ (∃ b, d = .bl b ∧ v = .bl b) ∨ (d ≠ .non ∧ (∀ b, d ≠ .bl b) ∧ v ≠ .non ∧ ∀ b, v ≠ .bl b) := by
  cases d with
  | non => exact .inl ⟨rfl, rep_non x⟩
  | bl b => exact .inr (.inl ⟨b, rfl, rep_bl x⟩)
  | int i => cases rep_int x; exact .inr (.inr ⟨(fun z => nomatch z), (fun _ z => nomatch z), (fun z => nomatch z), (fun _ z => nomatch z)⟩)
  | str i => cases rep_str x; exact .inr (.inr ⟨(fun z => nomatch z), (fun _ z => nomatch z), (fun z => nomatch z), (fun _ z => nomatch z)⟩)
  | tup ds => obtain ⟨a, _, rfl, _⟩ := seqT_ok x rfl; exact .inr (.inr ⟨(fun z => nomatch z), (fun _ z => nomatch z), (fun z => nomatch z), (fun _ z => nomatch z)⟩)
  | ptup ds => have x := x.rep rfl; unfold Rep at x; obtain ⟨a, _, rfl, _⟩ := x; exact .inr (.inr ⟨(fun z => nomatch z), (fun _ z => nomatch z), (fun z => nomatch z), (fun _ z => nomatch z)⟩)
  | ref n =>
    have x := x.rep rfl
    unfold Rep at x
    obtain ⟨a, _, rfl⟩ := x
    exact .inr (.inr ⟨(fun z => nomatch z), (fun _ z => nomatch z), (fun z => nomatch z), (fun _ z => nomatch z)⟩)
  | fro ds =>
    have x := x.rep rfl
    unfold Rep at x
    obtain ⟨a, _, rfl, _⟩ := x
    exact .inr (.inr ⟨(fun z => nomatch z), (fun _ z => nomatch z), (fun z => nomatch z), (fun _ z => nomatch z)⟩)
  | lst _ => unfold ResOk at x; obtain ⟨a, rfl, _⟩ := x; exact .inr (.inr ⟨(fun z => nomatch z), (fun _ z => nomatch z), (fun z => nomatch z), (fun _ z => nomatch z)⟩)
  | obj _ _ _ => unfold ResOk at x; obtain ⟨a, rfl, _⟩ := x; exact .inr (.inr ⟨(fun z => nomatch z), (fun _ z => nomatch z), (fun z => nomatch z), (fun _ z => nomatch z)⟩)
  | dk _ _ => unfold ResOk at x; obtain ⟨a, rfl, _⟩ := x; exact .inr (.inr ⟨(fun z => nomatch z), (fun _ z => nomatch z), (fun z => nomatch z), (fun _ z => nomatch z)⟩)
  | dt _ _ => unfold ResOk at x; obtain ⟨a, rfl, _⟩ := x; exact .inr (.inr ⟨(fun z => nomatch z), (fun _ z => nomatch z), (fun z => nomatch z), (fun _ z => nomatch z)⟩)
  | exn _ _ _ _ =>
    have x := x.rep rfl
    unfold Rep at x
    obtain ⟨rfl, _⟩ := x
    exact .inr (.inr ⟨(fun z => nomatch z), (fun _ z => nomatch z), (fun z => nomatch z), (fun _ z => nomatch z)⟩)
theorem isD_non {d : D} {neg : Bool} {S : Store} (h : d ≠ .non) : isD neg d .non S = some (.bl neg) := by
  unfold isD; cases d <;> first | rfl | exact absurd rfl h
theorem isD_bl {d : D} {neg b : Bool} {S : Store} (h : ∀ c, d ≠ .bl c) : isD neg d (.bl b) S = some (.bl neg) := by
  unfold isD; cases d <;> first | rfl | exact absurd rfl (h _)
theorem isD_ok : OpD X (compareOp .Is) (isD false) := by
  intro pins s σ H μ S H0 d e v w u1 u2 res I R x1 x2 r1 r2 eg
  rcases res_ref x2 with ⟨rfl, rfl⟩ | ⟨b, rfl, rfl⟩ | ⟨n1, n2, _⟩
  · cases r2
    have key : isD false d .non S = some (.bl (decide (v = .non))) := by
      rcases res_ref x1 with ⟨rfl, rfl⟩ | ⟨b, rfl, rfl⟩ | ⟨m1, m2, m3, m4⟩
      · rfl
      · rfl
      · rw [isD_non m1, decide_eq_false m3]
    rw [key] at eg; cases eg
    refine is_none_gen ?_
    rw [r1.none_iff]
    exact fin_bool (H0 := H) I R
  · cases r2
    have key : isD false d (.bl b) S = some (.bl (decide (v = .bl b))) := by
      rcases res_ref x1 with ⟨rfl, rfl⟩ | ⟨c, rfl, rfl⟩ | ⟨m1, m2, m3, m4⟩
      · rfl
      · show some (D.bl (c == b)) = _
        rw [dec_bl]
      · rw [isD_bl m2, decide_eq_false (m4 b)]
    rw [key] at eg; cases eg
    exact is_bool_gen r1 (fin_bool (H0 := H) I R)
  · unfold isD at eg
    split at eg
    · exact absurd rfl n1
    · exact absurd rfl (n2 _)
    · cases eg
theorem isNotD_ok : OpD X (compareOp .IsNot) (isD true) := by
  intro pins s σ H μ S H0 d e v w u1 u2 res I R x1 x2 r1 r2 eg
  rcases res_ref x2 with ⟨rfl, rfl⟩ | ⟨b, rfl, rfl⟩ | ⟨n1, n2, _⟩
  · cases r2
    have key : isD true d .non S = some (.bl (!decide (v = .non))) := by
      rcases res_ref x1 with ⟨rfl, rfl⟩ | ⟨b, rfl, rfl⟩ | ⟨m1, m2, m3, m4⟩
      · rfl
      · rfl
      · rw [isD_non m1, decide_eq_false m3]; rfl
    rw [key] at eg; cases eg
    refine isnot_none_gen ?_
    rw [r1.none_iff]
    exact fin_bool (H0 := H) I R
  · cases r2
    have key : isD true d (.bl b) S = some (.bl (!decide (v = .bl b))) := by
      rcases res_ref x1 with ⟨rfl, rfl⟩ | ⟨c, rfl, rfl⟩ | ⟨m1, m2, m3, m4⟩
      · rfl
      · show some (D.bl (!(c == b))) = _
        rw [dec_bl]
      · rw [isD_bl m2, decide_eq_false (m4 b)]; rfl
    rw [key] at eg; cases eg
    exact isnot_bool_gen r1 (fin_bool (H0 := H) I R)
  · unfold isD at eg
    split at eg
    · exact absurd rfl n1
    · exact absurd rfl (n2 _)
    · cases eg
theorem cmpD_ok (hu : X.A.units + 64 < cLine) : ∀ op : CmpOp, OpD X (compareOp op) (cmpD op)
  | .Eq => eqC_ok hu
  | .NotEq => neC_ok hu
  | .Lt => ltD_ok hu
  | .LtE => intB_ok op_le
  | .Gt => intB_ok op_gt
  | .GtE => intB_ok op_ge
  | .Is => isD_ok
  | .IsNot => isNotD_ok
  | .In => inD_ok
  | .NotIn => notInD_ok
theorem ev_cmp {a b : Expr} {op : CmpOp} {pos : Pos} {ma mb : M D} (hu : X.A.units + 64 < cLine) (ha : EvE X W a ma) (hb : EvE X W b mb) (h1 : behindInMarks op b = false) : EvE X W (.Compare a [op] [b] pos) (mBin (cmpD op) ma mb) :=
  ⟨fun pins s σ H μ S ρ I R E F => wpAny_Compare1 (bin_run ha hb (cmpD_ok hu op) I R E F) h1⟩
end
end Ev
/-! Ev4: tests, truths, subscripts, slices, argument lists, displays. -/
namespace Ev
open PySem PySem.Spec PyProof.Rows L2
variable {X : Cx} {W : WX}

/-! ### readings of parts -/
theorem tm1 {β : Type} {ma : M D} {f : D → Store → Out β} {σ : L2.St} {H : Hp} {μ : List Addr} {S : Store} {ρ : Env'} (R : Rel X.K X.mg μ S H) (E : EnvOk X.K μ H ρ σ) (F : Fine X.K X.mg W μ H σ ((ma ρ S).bind f)) {Q' : V → Hp → Prop}
    (q : ∀ d S1 v μ1 H1, ma ρ S = .ok d S1 → Step X.K X.mg μ H μ1 S1 H1 → ResOk X.K X.mg μ1 H H1 d v → Rel X.K X.mg μ1 S1 H1 → EnvOk X.K μ1 H1 ρ σ → Fine X.K X.mg W μ1 H1 σ (f d S1) → Q' v H1) : TM X W ma σ H Q' :=
  ⟨μ, S, ρ, R, E, F.left, fun d S1 v μ1 H1 e st x => q d S1 v μ1 H1 e st x st.rel (E.step R st) (F.right R st e)⟩
theorem tmt1 {β : Type} {ma : M Bool} {f : Bool → Store → Out β} {σ : L2.St} {H : Hp} {μ : List Addr} {S : Store} {ρ : Env'} (R : Rel X.K X.mg μ S H) (E : EnvOk X.K μ H ρ σ) (F : Fine X.K X.mg W μ H σ ((ma ρ S).bind f)) {Q' : Bool → Hp → Prop}
    (q : ∀ d S1 μ1 H1, ma ρ S = .ok d S1 → Step X.K X.mg μ H μ1 S1 H1 → Rel X.K X.mg μ1 S1 H1 → EnvOk X.K μ1 H1 ρ σ → Fine X.K X.mg W μ1 H1 σ (f d S1) → Q' d H1) : TMt X W ma σ H Q' :=
  ⟨μ, S, ρ, R, E, F.left, fun d S1 μ1 H1 e st => q d S1 μ1 H1 e st st.rel (E.step R st) (F.right R st e)⟩
theorem tm2 {g : D → D → Store → Option D} {ma mb : M D} {σ : L2.St} {H : Hp} {μ : List Addr} {S : Store} {ρ : Env'} (R : Rel X.K X.mg μ S H) (E : EnvOk X.K μ H ρ σ) (F : Fine X.K X.mg W μ H σ (mBin g ma mb ρ S)) {Q' : V → V → Hp → Prop}
    (q : ∀ d1 d2 S2 v1 v2 μ2 H2 r, mBin g ma mb ρ S = .ok r S2 → Step X.K X.mg μ H μ2 S2 H2 → ResOk X.K X.mg μ2 H H2 d1 v1 → ResOk X.K X.mg μ2 H H2 d2 v2 → g d1 d2 S2 = some r → Q' v1 v2 H2) :
    TM X W ma σ H fun x H1 => TM X W mb σ H1 fun y H2 => Q' x y H2 := by
  unfold mBin at F
  refine tm1 R E F fun d1 S1 v1 μ1 H1 e1 st1 x1 R1 E1 F1 => ?_
  refine tm1 R1 E1 F1 fun d2 S2 v2 μ2 H2 e2 st2 x2 R2 E2 F2 => ?_
  obtain ⟨r, er⟩ := fine_of F2
  refine q d1 d2 S2 v1 v2 μ2 H2 r ?_ (st1.trans R st2) (x1.step R1 st2) (x2.back R st1) er
  unfold mBin
  rw [e1, bind_ok, e2, bind_ok, er]; rfl

/-! ### names and constants -/
def mVar (i : Nat) : M D := fun ρ S => match ρ[i]? with
  | some (some d) => .ok d S
  | _ => .fail
theorem ev_var {i : Nat} {x : Str} {pos : Pos} (hN : X.N[i]? = some x) (hv : Vis X.env.scope x) (hd : (x == ("__debug__" : Str)) = false) (hcd : (x == ("__classdict__" : Str)) = false) : EvE X W (.Name x pos) (mVar i) := by
  refine EvE.of_pe (pe_var hN hv hd hcd) fun σ H μ S ρ R E F => ?_
  unfold mVar at F ⊢
  split at F
  · rename_i d hd
    obtain ⟨v, e, r⟩ := E.at_ i d hd
    exact ⟨v, e, d, S, μ, rfl, Step.refl R, ResOk.plain r⟩
  · exact F.elim
def mLit (d : D) : M D := fun _ S => .ok d S
theorem ev_int {i : Int} {j pos} : EvE X W (.Constant (.int i) j pos) (mLit (.int i)) := EvE.of_pe pe_int fun σ H μ S ρ R E F => ⟨_, S, μ, rfl, Step.refl R, res_int⟩
theorem ev_bl {i : Bool} {j pos} : EvE X W (.Constant (.bool i) j pos) (mLit (.bl i)) := EvE.of_pe pe_bl fun σ H μ S ρ R E F => ⟨_, S, μ, rfl, Step.refl R, res_bl⟩
theorem ev_non {j pos} : EvE X W (.Constant .none j pos) (mLit .non) := EvE.of_pe pe_non fun σ H μ S ρ R E F => ⟨_, S, μ, rfl, Step.refl R, res_non⟩
theorem ev_str {i : Str} {j pos} : EvE X W (.Constant (.str i) j pos) (mLit (.str i)) := EvE.of_pe pe_str fun σ H μ S ρ R E F => ⟨_, S, μ, rfl, Step.refl R, res_str⟩
/-- a module's constant -/
theorem ev_glob {x : Str} {d : D} {v : V} {u : Value} {pos : Pos} (hg : Gl X x) (hm : X.mg x = some u) (r : RelV v u) (q : ∀ μ H, Rep X.K μ H d v) (hd : (x == ("__debug__" : Str)) = false) : EvE X W (.Name x pos) (mLit d) :=
  EvE.of_pe (pe_glob hg hm r hd) fun σ H μ S ρ R E F => ⟨d, S, μ, rfl, Step.refl R, ResOk.plain (q μ H)⟩

/-! ### unary -/
def mNeg (ma : M D) : M D := fun ρ S => (ma ρ S).bind fun d S1 => match d with
  | .int i => .ok (.int (-i)) S1
  | _ => .fail
theorem ev_neg {a : Expr} {ma : M D} {pos : Pos} (ha : EvE X W a ma) : EvE X W (.UnaryOp .USub a pos) (mNeg ma) := by
  refine EvE.of_pe (pe_un un_neg ha.pe) fun σ H μ S ρ R E F => ?_
  unfold mNeg at F ⊢
  refine tm1 R E F fun d S1 v μ1 H1 e st x R1 E1 F1 => ?_
  split at F1
  · exact ⟨_, rep_int x, _, S1, μ1, by rw [e]; rfl, st, res_int⟩
  · exact F1.elim

/-! ### truth -/
def truD (S : Store) (d : D) : Option Bool := match d with
  | .non => some false
  | .bl b => some b
  | .int i => some (i != 0)
  | .str x => if x.length ≤ sizeLine then some ((x.length : Int) != 0) else none
  | d => match seqA S d with
    | some ds => some (!ds.isEmpty)
    | none => none
theorem truD_ok {K : PySem.W.Frag} {mg : Str → Option Value} {μ : List Addr} {H0 H : Hp} {S : Store} {d : D} {v : V} {k : Bool} (R : Rel K mg μ S H) (x : ResOk K mg μ H0 H d v) (h : truD S d = some k) : TruV K v H k := by
  have gen : ∀ ds, seqA S d = some ds → k = !ds.isEmpty → TruV K v H k := fun ds h1 h2 => by
    obtain ⟨a, vs, rfl, q, r⟩ := seqA_ok R x h1
    have e : ds.isEmpty = vs.isEmpty := by
      have := r.length
      cases ds <;> cases vs <;> simp at this ⊢
    rw [e] at h2
    rcases q with q | q
    · exact .inl ⟨vs, q, h2⟩
    · exact .inr (.inl ⟨vs, q, h2⟩)
  unfold truD at h
  split at h
  · cases h; cases rep_non x; rfl
  · cases h; cases rep_bl x; rfl
  · cases h; cases rep_int x; rfl
  · split at h
    · cases h; cases rep_str x; exact ⟨by assumption, rfl⟩
    · cases h
  · split at h
    · rename_i ds h1
      cases h
      exact gen ds h1 rfl
    · cases h
def mTru (m : M D) : M Bool := fun ρ S => (m ρ S).bind fun d S1 => Out.of (truD S1 d) S1
/-- what is tested by its value -/
def plainTest : Expr → Bool
  | .UnaryOp .Not _ _ => false
  | .BoolOp _ _ _ => false
  | .IfExp _ _ _ _ => false
  | .Compare _ _ _ _ => false
  | _ => true
theorem plainTest_ok {e : Expr} (h : plainTest e = true) {env : Env} (whole : Sem Value) : isTrue e env whole = (do let v ← whole; standAt e.pos; holding [v] (truthy v)) := by
  cases e with
  | UnaryOp op x p => cases op <;> first | rfl | cases h
  | BoolOp _ _ _ => cases h
  | IfExp _ _ _ _ => cases h
  | Compare _ _ _ _ => cases h
  | _ => rfl
theorem evt_plain {e : Expr} {m : M D} (he : EvE X W e m) (hp : plainTest e = true) : EvT X W e (mTru m) := by
  refine EvT.of_pt (pt_truth he.pe (plainTest_ok hp)) fun σ H μ S ρ R E F => ?_
  unfold mTru at F ⊢
  refine tm1 R E F fun d S1 v μ1 H1 e1 st x R1 E1 F1 => ?_
  obtain ⟨k, ek⟩ := fine_of F1
  exact ⟨k, truD_ok R1 x ek, S1, μ1, by rw [e1, bind_ok, ek]; rfl, st⟩
theorem evt_cmp {a b : Expr} {op : CmpOp} {pos : Pos} {ma mb : M D} (hu : X.A.units + 64 < cLine) (ha : EvE X W a ma) (hb : EvE X W b mb) (h1 : behindInMarks op b = false) : EvT X W (.Compare a [op] [b] pos) (mTru (mBin (cmpD op) ma mb)) := by
  refine ⟨fun pins s σ H μ S ρ I R E F => ?_⟩
  refine wpAny_isTrue_Compare1 (thn (bin_run ha hb (cmpD_ok hu op) I R E F.left) fun v s1 h1 => thn h1 fun u s2 h2 => thn h2 fun c s3 ⟨d, S', w, μ', H', e, I', r, st, x⟩ => ?_) h1
  have F1 : Fine X.K X.mg W μ' H' σ (Out.of (truD S' d) S') := Fine.right (f := fun d S1 => Out.of (truD S1 d) S1) R st F e
  obtain ⟨k, ek⟩ := fine_of F1
  refine thn (tru_ok pins s3 σ H' w c (fun b H2 => b = k ∧ H2 = H') I' r ⟨k, truD_ok st.rel x ek, rfl, rfl⟩) fun b s4 ⟨H2, I2, e1, e2⟩ => ?_
  subst e1; subst e2
  exact ⟨S', μ', H2, by unfold mTru; rw [e, bind_ok, ek]; rfl, I2, st⟩
def mNotT (m : M Bool) : M Bool := fun ρ S => (m ρ S).bind fun b S1 => .ok (!b) S1
theorem evt_not {a : Expr} {m : M Bool} {pos : Pos} (ha : EvT X W a m) : EvT X W (.UnaryOp .Not a pos) (mNotT m) := by
  refine EvT.of_pt (pt_not ha.pt) fun σ H μ S ρ R E F => ?_
  unfold mNotT at F ⊢
  exact tmt1 R E F fun b S1 μ1 H1 e st R1 E1 F1 => ⟨S1, μ1, by rw [e]; rfl, st⟩
/-- not, as a value -/
def mNotV (m : M D) : M D := fun ρ S => (m ρ S).bind fun d S1 => match truD S1 d with
  | some b => .ok (.bl (!b)) S1
  | none => .fail
theorem ev_not {a : Expr} {m : M D} {pos : Pos} (ha : EvE X W a m) : EvE X W (.UnaryOp .Not a pos) (mNotV m) := by
  refine EvE.of_pe (pe_notT ha.pe) fun σ H μ S ρ R E F => ?_
  unfold mNotV at F ⊢
  refine tm1 R E F fun d S1 v μ1 H1 e st x R1 E1 F1 => ?_
  split at F1
  · rename_i b hb
    exact ⟨b, truD_ok R1 x hb, _, S1, μ1, by rw [e, bind_ok]; simp only [hb], st, res_bl⟩
  · exact F1.elim
def mIte {α : Type} (c : M Bool) (a b : M α) : M α := fun ρ S => (c ρ S).bind fun k S1 => if k = true then a ρ S1 else b ρ S1
theorem ev_ite {c a b : Expr} {mc : M Bool} {ma mb : M D} {pos : Pos} (hc : EvT X W c mc) (ha : EvE X W a ma) (hb : EvE X W b mb) : EvE X W (.IfExp c a b pos) (mIte mc ma mb) := by
  refine EvE.of_pe (pe_ifExp hc.pt ha.pe hb.pe) fun σ H μ S ρ R E F => ?_
  unfold mIte at F ⊢
  refine tmt1 R E F fun k S1 μ1 H1 e st R1 E1 F1 => ?_
  cases k with
  | true =>
    rw [if_pos rfl] at F1 ⊢
    refine ⟨μ1, S1, ρ, R1, E1, F1, fun d S' v μ' H' e2 st2 x => ⟨d, S', μ', ?_, st.trans R st2, x.back R st⟩⟩
    rw [e, bind_ok, if_pos rfl, e2]
  | false =>
    rw [if_neg Bool.false_ne_true] at F1 ⊢
    refine ⟨μ1, S1, ρ, R1, E1, F1, fun d S' v μ' H' e2 st2 x => ⟨d, S', μ', ?_, st.trans R st2, x.back R st⟩⟩
    rw [e, bind_ok, if_neg Bool.false_ne_true, e2]

/-! ### and, or: tests, one after another -/
/-- the tests that are left of and (true), or (false) -/
structure EvTs (X : Cx) (W : WX) (op : BoolOp) (es : List Expr) (m : M Bool) : Prop where
  run : ∀ (pos : Pos) (whole : Sem Value) (pins : List (Addr × Obj)) (s : Shared) (σ : L2.St) (H : Hp) (μ : List Addr) (S : Store) (ρ : Env'), Inv X pins σ H s → Rel X.K X.mg μ S H → EnvOk X.K μ H ρ σ → Fine X.K X.mg W μ H σ (m ρ S) →
    wpAny (model X.prog X.w) X.A (isTrue (.BoolOp op es pos) X.env whole) (fun b s' => ∃ S' μ' H', m ρ S = .ok b S' ∧ Inv X pins σ H' s' ∧ Step X.K X.mg μ H μ' S' H') X.xe s
def mEndT (b : Bool) : M Bool := fun _ S => .ok b S
def mAndT (a b : M Bool) : M Bool := fun ρ S => (a ρ S).bind fun k S1 => if k = true then b ρ S1 else .ok false S1
def mOrT (a b : M Bool) : M Bool := fun ρ S => (a ρ S).bind fun k S1 => if k = true then .ok true S1 else b ρ S1
theorem evts_and_nil : EvTs X W .And [] (mEndT true) := ⟨fun pos wh pins s σ H μ S ρ I R E F => isTrue_and_nil ⟨S, μ, H, rfl, I, Step.refl R⟩⟩
theorem evts_or_nil : EvTs X W .Or [] (mEndT false) := ⟨fun pos wh pins s σ H μ S ρ I R E F => isTrue_or_nil ⟨S, μ, H, rfl, I, Step.refl R⟩⟩
theorem evts_and {a : Expr} {es : List Expr} {ma mb : M Bool} (ha : EvT X W a ma) (hb : EvTs X W .And es mb) : EvTs X W .And (a :: es) (mAndT ma mb) := by
  refine ⟨fun pos wh pins s σ H μ S ρ I R E F => ?_⟩
  unfold mAndT at F ⊢
  refine isTrue_and (thn (ha.run pins s σ H μ S ρ I R E F.left) fun c s1 ⟨S1, μ1, H1, e, I1, st⟩ => ?_)
  have F1 := Fine.right R st F e
  cases c with
  | true =>
    rw [if_pos rfl] at F1
    refine thn (hb.run pos wh pins s1 σ H1 μ1 S1 ρ I1 st.rel (E.step R st) F1) fun b s2 ⟨S2, μ2, H2, e2, I2, st2⟩ => ?_
    exact ⟨S2, μ2, H2, by rw [e, bind_ok, if_pos rfl, e2], I2, st.trans R st2⟩
  | false => exact ⟨S1, μ1, H1, by rw [e, bind_ok, if_neg Bool.false_ne_true], I1, st⟩
theorem evts_or {a : Expr} {es : List Expr} {ma mb : M Bool} (ha : EvT X W a ma) (hb : EvTs X W .Or es mb) : EvTs X W .Or (a :: es) (mOrT ma mb) := by
  refine ⟨fun pos wh pins s σ H μ S ρ I R E F => ?_⟩
  unfold mOrT at F ⊢
  refine isTrue_or (thn (ha.run pins s σ H μ S ρ I R E F.left) fun c s1 ⟨S1, μ1, H1, e, I1, st⟩ => ?_)
  have F1 := Fine.right R st F e
  cases c with
  | true => exact ⟨S1, μ1, H1, by rw [e, bind_ok, if_pos rfl], I1, st⟩
  | false =>
    rw [if_neg Bool.false_ne_true] at F1
    refine thn (hb.run pos wh pins s1 σ H1 μ1 S1 ρ I1 st.rel (E.step R st) F1) fun b s2 ⟨S2, μ2, H2, e2, I2, st2⟩ => ?_
    exact ⟨S2, μ2, H2, by rw [e, bind_ok, if_neg Bool.false_ne_true, e2], I2, st.trans R st2⟩
theorem EvTs.t {op : BoolOp} {es : List Expr} {m : M Bool} {pos : Pos} (h : EvTs X W op es m) : EvT X W (.BoolOp op es pos) m := ⟨fun pins s σ H μ S ρ I R E F => h.run pos _ pins s σ H μ S ρ I R E F⟩
/-! as values: all but the last are truths -/
def mAndV (a b : M D) : M D := fun ρ S => (a ρ S).bind fun d S1 => match d with
  | .bl true => b ρ S1
  | .bl false => .ok (.bl false) S1
  | _ => .fail
def mOrV (a b : M D) : M D := fun ρ S => (a ρ S).bind fun d S1 => match d with
  | .bl true => .ok (.bl true) S1
  | .bl false => b ρ S1
  | _ => .fail
theorem ev_one {a : Expr} {op : BoolOp} {m : M D} {pos : Pos} (ha : EvE X W a m) : EvE X W (.BoolOp op [a] pos) m := ⟨fun pins s σ H μ S ρ I R E F => BoolOp_one (ha.run pins s σ H μ S ρ I R E F)⟩
theorem ev_and {a b : Expr} {rest : List Expr} {ma mb : M D} {pos : Pos} (ha : EvE X W a ma) (hb : EvE X W (.BoolOp .And (b :: rest) pos) mb) : EvE X W (.BoolOp .And (a :: b :: rest) pos) (mAndV ma mb) := by
  refine EvE.of_pe (pe_and ha.pe hb.pe) fun σ H μ S ρ R E F => ?_
  unfold mAndV at F ⊢
  refine tm1 R E F fun d S1 v μ1 H1 e st x R1 E1 F1 => ?_
  split at F1
  · refine ⟨true, rep_bl x, ?_⟩
    rw [if_pos rfl]
    refine ⟨μ1, S1, ρ, R1, E1, F1, fun d S' v μ' H' e2 st2 x2 => ⟨d, S', μ', ?_, st.trans R st2, x2.back R st⟩⟩
    rw [e, bind_ok]; exact e2
  · refine ⟨false, rep_bl x, ?_⟩
    rw [if_neg Bool.false_ne_true]
    exact ⟨_, S1, μ1, by rw [e]; rfl, st, res_bl⟩
  · exact F1.elim
theorem ev_or {a b : Expr} {rest : List Expr} {ma mb : M D} {pos : Pos} (ha : EvE X W a ma) (hb : EvE X W (.BoolOp .Or (b :: rest) pos) mb) : EvE X W (.BoolOp .Or (a :: b :: rest) pos) (mOrV ma mb) := by
  refine EvE.of_pe (pe_or ha.pe hb.pe) fun σ H μ S ρ R E F => ?_
  unfold mOrV at F ⊢
  refine tm1 R E F fun d S1 v μ1 H1 e st x R1 E1 F1 => ?_
  split at F1
  · refine ⟨true, rep_bl x, ?_⟩
    rw [if_pos rfl]
    exact ⟨_, S1, μ1, by rw [e]; rfl, st, res_bl⟩
  · refine ⟨false, rep_bl x, ?_⟩
    rw [if_neg Bool.false_ne_true]
    refine ⟨μ1, S1, ρ, R1, E1, F1, fun d S' v μ' H' e2 st2 x2 => ⟨d, S', μ', ?_, st.trans R st2, x2.back R st⟩⟩
    rw [e, bind_ok]; exact e2
  · exact F1.elim

/-! ### subscripts -/
theorem RepL.atI {K : PySem.W.Frag} {μ : List Addr} {H : Hp} {ds : List D} {vs : List V} {i : Int} {d : D} (r : RepL K μ H ds vs) (h : L2.atI ds i = some d) : ∃ v, L2.atI vs i = some v ∧ Rep K μ H d v := by
  unfold L2.atI at h ⊢
  rw [r.length] at h
  cases q : ixN vs.length i with
  | none => rw [q] at h; cases h
  | some j =>
    rw [q] at h
    obtain ⟨v, e, r'⟩ := r.get (i := j) (d := d) h
    exact ⟨v, e, r'⟩
def idxD (d e : D) (S : Store) : Option D := match d, e with
  | .str z, .int i => if z.length ≤ sizeLine then (atI z.cps.toList i).map fun c => .str ⟨#[c]⟩ else none
  | d, .int i => match seqA S d with
    | some ds => atI ds i
    | none => none
  | _, _ => none
def notSlice : Expr → Bool
  | .Slice _ _ _ _ => false
  | _ => true
theorem plainIx_of {b : Expr} (h : notSlice b = true) : PlainIx b := fun o i => by
  cases b <;> first | rfl | cases h
theorem ev_idx {a b : Expr} {ma mb : M D} {pos : Pos} (ha : EvE X W a ma) (hb : EvE X W b mb) (hs : notSlice b = true) : EvE X W (.Subscript a b pos) (mBin idxD ma mb) := by
  refine EvE.of_pe (pe_ix ix_seq ha.pe hb.pe (plainIx_of hs)) fun σ H μ S ρ R E F => ?_
  refine tm2 R E F fun d1 d2 S2 v1 v2 μ2 H2 r e st x1 x2 hr => ?_
  have R2 := st.rel
  have fin : ∀ {v : V}, ResOk X.K X.mg μ2 H H2 r v → ∃ d S' μ', mBin idxD ma mb ρ S = .ok d S' ∧ Step X.K X.mg μ H μ' S' H2 ∧ ResOk X.K X.mg μ' H H2 d v := fun x => ⟨r, S2, μ2, e, st, x⟩
  unfold idxD at hr
  split at hr
  · rename_i z i
    split at hr
    · rename_i hz
      cases q : atI z.cps.toList i with
      | none => rw [q] at hr; cases hr
      | some c =>
        rw [q] at hr
        cases hr
        exact .inr (.inr ⟨z, i, c, rep_str x1, rep_int x2, hz, q, fin res_str⟩)
    · cases hr
  · rename_i i _
    split at hr
    · rename_i ds h1
      obtain ⟨a, vs, e1, q, l⟩ := seqA_ok R2 x1 h1
      obtain ⟨v, ev, rv⟩ := l.atI hr
      rcases q with q | q
      · exact .inl ⟨a, vs, i, v, e1, rep_int x2, q, ev, fin (ResOk.plain rv)⟩
      · exact .inr (.inl ⟨a, vs, i, v, e1, rep_int x2, q, ev, fin (ResOk.plain rv)⟩)
    · cases hr
  · cases hr

/-! ### slices -/
def cutL {α : Type} (xs : List α) (lo hi : Option Int) : List α := (xs.drop (HT.sIx xs.length 0 lo)).take (HT.sIx xs.length xs.length hi - HT.sIx xs.length 0 lo)
theorem RepL.cutL {K : PySem.W.Frag} {μ : List Addr} {H : Hp} {ds : List D} {vs : List V} {lo hi : Option Int} (r : RepL K μ H ds vs) : RepL K μ H (Ev.cutL ds lo hi) (cutV vs lo hi) := by
  unfold Ev.cutL cutV
  rw [r.length]
  exact (r.drop _).take _
def cutD (d : D) (lo hi : Option Int) (S : Store) : Option D := match d with
  | .str z => if z.length ≤ sizeLine then some (.str (cutS z lo hi)) else none
  | .tup ds => some (.tup (cutL ds lo hi))
  | d => match seqL S d with
    | some ds => some (.lst (cutL ds lo hi))
    | none => none
structure EvO (X : Cx) (W : WX) (e : Option Expr) (m : M (Option Int)) : Prop where
  run : ∀ (pins : List (Addr × Obj)) (s : Shared) (σ : L2.St) (H : Hp) (μ : List Addr) (S : Store) (ρ : Env'), Inv X pins σ H s → Rel X.K X.mg μ S H → EnvOk X.K μ H ρ σ → Fine X.K X.mg W μ H σ (m ρ S) →
    wpAny (model X.prog X.w) X.A (evalPart e X.env) (fun u s' => ∃ o S' μ' H', m ρ S = .ok o S' ∧ Inv X pins σ H' s' ∧ IsPart u o ∧ Step X.K X.mg μ H μ' S' H') X.xe s
def mNoPart : M (Option Int) := fun _ S => .ok none S
def mPart (m : M D) : M (Option Int) := fun ρ S => (m ρ S).bind fun d S1 => match d with
  | .int i => .ok (some i) S1
  | _ => .fail
theorem evo_none : EvO X W none mNoPart := by
  refine ⟨fun pins s σ H μ S ρ I R E F => ?_⟩
  rw [evalPart_none]
  exact wpAny_pure ⟨none, S, μ, H, rfl, I, .none, Step.refl R⟩
theorem evo_some {e : Expr} {m : M D} (h : EvE X W e m) : EvO X W (some e) (mPart m) := by
  refine ⟨fun pins s σ H μ S ρ I R E F => ?_⟩
  rw [evalPart_some]
  unfold mPart at F ⊢
  refine thn (h.run pins s σ H μ S ρ I R E F.left) fun u s1 ⟨d, S1, v, μ1, H1, e1, I1, r1, st, x⟩ => ?_
  have F1 := Fine.right R st F e1
  split at F1
  · rename_i i
    cases rep_int x
    obtain ⟨t, rfl⟩ := r1
    exact ⟨some i, S1, μ1, H1, by rw [e1]; rfl, I1, .int i t, st⟩
  · exact F1.elim
def TMo (X : Cx) (W : WX) (m : M (Option Int)) : TO := fun σ H Q => ∃ μ S ρ, Rel X.K X.mg μ S H ∧ EnvOk X.K μ H ρ σ ∧ Fine X.K X.mg W μ H σ (m ρ S) ∧
  ∀ b S' μ' H', m ρ S = .ok b S' → Step X.K X.mg μ H μ' S' H' → Q b H'
theorem EvO.po {e : Option Expr} {m : M (Option Int)} (h : EvO X W e m) : PO X e (TMo X W m) := by
  refine ⟨fun pins s σ H Q I ⟨μ, S, ρ, R, E, F, q⟩ => thn (h.run pins s σ H μ S ρ I R E F) fun b s' ⟨o, S', μ', H', e, I', p, st⟩ => ?_⟩
  exact ⟨o, H', I', p, q o S' μ' H' e st⟩
theorem tmo1 {β : Type} {ma : M (Option Int)} {f : Option Int → Store → Out β} {σ : L2.St} {H : Hp} {μ : List Addr} {S : Store} {ρ : Env'} (R : Rel X.K X.mg μ S H) (E : EnvOk X.K μ H ρ σ) (F : Fine X.K X.mg W μ H σ ((ma ρ S).bind f)) {Q' : Option Int → Hp → Prop}
    (q : ∀ d S1 μ1 H1, ma ρ S = .ok d S1 → Step X.K X.mg μ H μ1 S1 H1 → Rel X.K X.mg μ1 S1 H1 → EnvOk X.K μ1 H1 ρ σ → Fine X.K X.mg W μ1 H1 σ (f d S1) → Q' d H1) : TMo X W ma σ H Q' :=
  ⟨μ, S, ρ, R, E, F.left, fun d S1 μ1 H1 e st => q d S1 μ1 H1 e st st.rel (E.step R st) (F.right R st e)⟩
def mCut (ma : M D) (ml mh : M (Option Int)) : M D := fun ρ S => (ma ρ S).bind fun d S1 => (ml ρ S1).bind fun l S2 => (mh ρ S2).bind fun h S3 => Out.of (cutD d l h S3) S3
theorem ev_cut {a : Expr} {lo hi : Option Expr} {ma : M D} {ml mh : M (Option Int)} {p2 pos : Pos} (ha : EvE X W a ma) (hl : EvO X W lo ml) (hh : EvO X W hi mh) : EvE X W (.Subscript a (.Slice lo hi none p2) pos) (mCut ma ml mh) := by
  refine EvE.of_pe (pe_slice (sl_list.or (sl_tupA.or sl_str)) ha.pe hl.po hh.po) fun σ H μ S ρ R E F => ?_
  unfold mCut at F ⊢
  refine tm1 R E F fun d S1 v μ1 H1 e1 st1 x1 R1 E1 F1 => ?_
  refine tmo1 R1 E1 F1 fun l S2 μ2 H2 e2 st2 R2 E2 F2 => ?_
  refine tmo1 R2 E2 F2 fun h S3 μ3 H3 e3 st3 R3 E3 F3 => ?_
  obtain ⟨r, er⟩ := fine_of F3
  have st := (st1.trans R st2).trans R st3
  have x := (x1.step R1 st2).step R2 st3
  have fin : ∀ {v : V} {H' : Hp}, Step X.K X.mg μ3 H3 μ3 S3 H' → ResOk X.K X.mg μ3 H3 H' r v → ∃ d S' μ', ((ma ρ S).bind fun d S1 => (ml ρ S1).bind fun l S2 => (mh ρ S2).bind fun h S3 => Out.of (cutD d l h S3) S3) = .ok d S' ∧ Step X.K X.mg μ H μ' S' H' ∧ ResOk X.K X.mg μ' H H' d v :=
    fun st' x' => ⟨r, S3, μ3, by rw [e1, bind_ok, e2, bind_ok, e3, bind_ok, er]; rfl, st.trans R st', x'.back R st⟩
  unfold cutD at er
  split at er
  · rename_i z
    split at er
    · rename_i hz
      cases er
      exact .inr (.inr ⟨z, rep_str x, hz, fin (Step.refl R3) res_str⟩)
    · cases er
  · rename_i ds
    cases er
    obtain ⟨a, vs, rfl, q, l'⟩ := seqT_ok x rfl
    refine .inr (.inl ⟨a, vs, rfl, q, fun hw => ?_, fun hw p hp => ?_⟩)
    · refine fin (Step.refl R3) (ResOk.plain ?_)
      have : Ev.cutL ds l h = ds := by
        unfold Ev.cutL
        rw [l'.length, hw.1, hw.2, List.drop_zero, Nat.sub_zero, ← l'.length, List.take_length]
      rw [this]
      unfold Rep
      exact ⟨a, vs, rfl, q, l'⟩
    · exact fin (Step.fresh R3 hp) (new_tup R3 hp l'.cutL)
  · split at er
    · rename_i ds h1
      cases er
      obtain ⟨a, vs, rfl, q, l'⟩ := seqL_ok R3 x h1
      exact .inl ⟨a, vs, rfl, q, fun p hp => fin (Step.fresh R3 hp) (new_lst R3 hp l'.cutL)⟩
    · cases er
/-- xs[::-1] of a list -/
def mRev (ma : M D) : M D := fun ρ S => (ma ρ S).bind fun d S1 => match seqL S1 d with
  | some ds => .ok (.lst ds.reverse) S1
  | none => .fail
theorem ev_rev {a : Expr} {ma : M D} {k : Nat} {p1 p2 p3 pos : Pos} (ha : EvE X W a ma) : EvE X W (.Subscript a (.Slice none none (some (.UnaryOp .USub (.Constant (.int 1) k p1) p2)) p3) pos) (mRev ma) := by
  refine EvE.of_pe (pe_revL ha.pe) fun σ H μ S ρ R E F => ?_
  unfold mRev at F ⊢
  refine tm1 R E F fun d S1 v μ1 H1 e st x R1 E1 F1 => ?_
  split at F1
  · rename_i ds hd
    obtain ⟨a, vs, rfl, q, l⟩ := seqL_ok R1 x hd
    exact ⟨a, vs, rfl, q, fun p hp => ⟨_, S1, μ1, by rw [e, bind_ok]; simp only [hd], st.trans R (Step.fresh R1 hp), (new_lst R1 hp l.reverse).back R st⟩⟩
  · exact F1.elim

/-! ### argument lists -/
/-- the addresses of the new things among values -/
def newA : List D → List V → List Addr
  | d :: ds, v :: vs => match d.cell?, v with
    | some _, .ref a => a :: newA ds vs
    | _, _ => newA ds vs
  | _, _ => []
inductive ResL (K : PySem.W.Frag) (mg : Str → Option Value) (μ : List Addr) (H0 H : Hp) : List D → List V → Prop
  | nil : ResL K mg μ H0 H [] []
  | cons {d : D} {ds : List D} {v : V} {vs : List V} : ResOk K mg μ H0 H d v → ResL K mg μ H0 H ds vs → (∀ c a, d.cell? = some c → v = .ref a → a ∉ newA ds vs) → ResL K mg μ H0 H (d :: ds) (v :: vs)
section
variable {K : PySem.W.Frag} {mg : Str → Option Value} {μ μ' : List Addr} {H0 H H' : Hp} {S S' : Store}
theorem ResL.new {ds : List D} {vs : List V} (r : ResL K mg μ H0 H ds vs) : ∀ a ∈ newA ds vs, (∃ o, H a = some o) ∧ a ∉ μ ∧ H0 a = none := by
  induction r with
  | nil => intro a h; cases h
  | cons x r n ih =>
    rename_i d ds v vs
    intro a h
    unfold newA at h
    split at h
    · rename_i c b hc
      unfold ResOk at x
      rw [hc] at x
      obtain ⟨b', e, h1, h2, h3⟩ := x
      cases e
      rcases List.mem_cons.mp h with rfl | h
      · obtain ⟨_, _, _, _, q, _⟩ := h1
        exact ⟨⟨_, q⟩, h2, h3⟩
      · exact ih a h
    · exact ih a h
theorem ResL.step {ds : List D} {vs : List V} (R : Rel K mg μ S H) (st : Step K mg μ H μ' S' H') (r : ResL K mg μ H0 H ds vs) : ResL K mg μ' H0 H' ds vs := by
  induction r with
  | nil => exact .nil
  | cons x r n ih => exact .cons (x.step R st) ih n
theorem ResL.back {ds : List D} {vs : List V} {S0 : Store} {μ0 μ1 : List Addr} {S1 : Store} {H00 : Hp} (R : Rel K mg μ0 S0 H00) (st : Step K mg μ0 H00 μ1 S1 H0) (r : ResL K mg μ H0 H ds vs) : ResL K mg μ H00 H ds vs := by
  induction r with
  | nil => exact .nil
  | cons x r n ih => exact .cons (x.back R st) ih n
theorem ResL.length {ds : List D} {vs : List V} (r : ResL K mg μ H0 H ds vs) : ds.length = vs.length := by
  induction r with
  | nil => rfl
  | cons x r n ih => simp [ih]
def boxL : List D → Store → List D × Store
  | [], S => ([], S)
  | d :: ds, S => ((box d S).1 :: (boxL ds (box d S).2).1, (boxL ds (box d S).2).2)
theorem Step.boxL {ds : List D} {vs : List V} {H0 : Hp} {μ0 : List Addr} : ∀ {μ : List Addr} {S : Store}, ResL K mg μ H0 H ds vs → Step K mg μ0 H0 μ S H →
    ∃ ext, Step K mg μ0 H0 (μ ++ ext) (Ev.boxL ds S).2 H ∧ RepL K (μ ++ ext) H (Ev.boxL ds S).1 vs ∧ ∀ a ∈ ext, a ∈ newA ds vs := by
  induction ds generalizing vs with
  | nil => intro μ S r st; cases r; exact ⟨[], by simpa [Ev.boxL] using st, RepL.nil, fun _ h => nomatch h⟩
  | cons d ds ih =>
    intro μ S r st
    cases r with
    | cons x r n =>
      rename_i v vs
      obtain ⟨μ1, st1, r1, ext1, e1⟩ := st.box x
      -- which cell was added
      have hext : (d.cell? = none ∧ ext1 = []) ∨ ∃ c a, d.cell? = some c ∧ v = .ref a ∧ ext1 = [a] := by
        unfold ResOk at x
        cases hc : d.cell? with
        | none =>
          refine .inl ⟨rfl, ?_⟩
          have l1 := st1.rel.len
          unfold Ev.box at l1
          rw [hc, e1] at l1
          have l0 := st.rel.len
          rw [List.length_append] at l1
          exact List.length_eq_zero_iff.mp (by simp only at l1; omega)
        | some c =>
          rw [hc] at x
          obtain ⟨a, rfl, _⟩ := x
          refine .inr ⟨c, a, rfl, rfl, ?_⟩
          unfold Ev.box at r1 st1
          rw [hc] at r1 st1
          simp only at r1 st1
          unfold Rep at r1
          obtain ⟨b, hb, eb⟩ := r1
          cases eb
          have l1 := st1.rel.len
          have l0 := st.rel.len
          rw [e1, List.length_append] at l1
          rw [e1, List.getElem?_append_right (by omega)] at hb
          have hlen : ext1.length = 1 := by simp at l1; omega
          obtain ⟨y, rfl⟩ := List.length_eq_one_iff.mp hlen
          rw [show S.length - μ.length = 0 by omega] at hb
          simp at hb
          rw [hb]
      have rr : ResL K mg μ1 H0 H ds vs := by
        have key : ∀ {ds : List D} {vs : List V}, ResL K mg μ H0 H ds vs → (∀ a ∈ newA ds vs, a ∉ ext1) → ResL K mg μ1 H0 H ds vs := by
          intro ds vs r
          induction r with
          | nil => intro _; exact .nil
          | cons x r n ih =>
            rename_i d ds v vs
            intro hn
            have hn2 : ∀ a ∈ newA ds vs, a ∉ ext1 := fun a ha => hn a (by
              unfold newA
              split
              · exact List.mem_cons_of_mem _ ha
              · exact ha)
            refine .cons ?_ (ih hn2) n
            unfold ResOk at x ⊢
            cases hc : d.cell? with
            | none => rw [hc] at x; dsimp only at x ⊢; rw [e1]; exact x.mono st.rel.wr Keep.refl
            | some c =>
              rw [hc] at x
              obtain ⟨a, rfl, h1, h2, h3⟩ := x
              refine ⟨a, rfl, by rw [e1]; exact h1.more st.rel.wr, fun hm => ?_, h3⟩
              rw [e1] at hm
              rcases List.mem_append.mp hm with z | z
              · exact h2 z
              · refine hn a ?_ z
                unfold newA
                rw [hc]
                exact List.mem_cons_self
        refine key r fun a ha hm => ?_
        rcases hext with ⟨_, e⟩ | ⟨c, b, hc, hv, e⟩
        · rw [e] at hm; cases hm
        · rw [e] at hm
          simp at hm
          subst hm
          exact n c _ hc hv ha
      obtain ⟨ext2, st2, r2, f2⟩ := ih rr st1
      refine ⟨ext1 ++ ext2, ?_, ?_, fun a ha => ?_⟩
      · rw [← List.append_assoc, ← e1]; exact st2
      · rw [← List.append_assoc, ← e1]
        refine RepL.cons ?_ r2
        exact r1.mono st1.rel.wr Keep.refl
      · unfold newA
        rcases hext with ⟨hc, e⟩ | ⟨c, b, hc, hv, e⟩
        · rw [e, List.nil_append] at ha
          rw [hc]
          exact f2 a ha
        · rw [hc, hv]
          rw [e] at ha
          rcases List.mem_append.mp ha with z | z
          · simp at z; rw [z]; exact List.mem_cons_self
          · exact List.mem_cons_of_mem _ (f2 a z)
end
structure EvA (X : Cx) (W : WX) (es : List Expr) (m : M (List D)) : Prop where
  run : ∀ (pos : Pos) (pins : List (Addr × Obj)) (s : Shared) (σ : L2.St) (H : Hp) (μ : List Addr) (S : Store) (ρ : Env'), Inv X pins σ H s → Rel X.K X.mg μ S H → EnvOk X.K μ H ρ σ → Fine X.K X.mg W μ H σ (m ρ S) →
    wpAny (model X.prog X.w) X.A (spliced (backTo pos (starEach es X.env))) (fun us s' => ∃ ds S' vs μ' H', m ρ S = .ok ds S' ∧ Inv X pins σ H' s' ∧ Vals vs us ∧ Step X.K X.mg μ H μ' S' H' ∧ ResL X.K X.mg μ' H H' ds vs) X.xe s
def notStar : Expr → Bool
  | .Starred _ _ => false
  | _ => true
theorem star_of {e : Expr} {es : List Expr} {env : Env} (h : notStar e = true) : starEach (e :: es) env = (false, eval e env) :: starEach es env := by
  cases e <;> first | rfl | cases h
def mNil : M (List D) := fun _ S => .ok [] S
def mCons (a : M D) (r : M (List D)) : M (List D) := fun ρ S => (a ρ S).bind fun d S1 => (r ρ S1).bind fun ds S2 => .ok (d :: ds) S2
theorem eva_nil : EvA X W [] mNil := ⟨fun pos pins s σ H μ S ρ I R E F => Calls.spliced_nil ⟨[], S, [], μ, H, rfl, I, .nil, Step.refl R, .nil⟩⟩
theorem eva_cons {e : Expr} {es : List Expr} {m : M D} {r : M (List D)} (he : EvE X W e m) (hr : EvA X W es r) (hs : notStar e = true) : EvA X W (e :: es) (mCons m r) := by
  refine ⟨fun pos pins s σ H μ S ρ I R E F => ?_⟩
  rw [star_of hs]
  show wpAny _ _ (spliced ((false, eval e X.env) :: backTo pos (starEach es X.env))) _ _ s
  unfold mCons at F ⊢
  refine Calls.spliced_cons (thn (he.run pins s σ H μ S ρ I R E F.left) fun u s1 ⟨d, S1, v, μ1, H1, e1, I1, r1, st1, x1⟩ => ?_)
  have F1 := Fine.right R st1 F e1
  have R1 := st1.rel
  refine thn (hr.run pos pins s1 σ H1 μ1 S1 ρ I1 R1 (E.step R st1) F1.left) fun us s2 ⟨ds, S2, vs, μ2, H2, e2, I2, r2, st2, x2⟩ => ?_
  refine ⟨d :: ds, S2, v :: vs, μ2, H2, by rw [e1, bind_ok, e2]; rfl, I2, .cons r1 r2, st1.trans R st2, .cons (x1.step R1 st2) (x2.back R st1) fun c a hc hv ha => ?_⟩
  obtain ⟨_, _, q⟩ := x2.new a ha
  unfold ResOk at x1
  rw [hc] at x1
  obtain ⟨b, eb, ⟨_, _, _, _, hb, _⟩, _⟩ := x1
  rw [hv] at eb
  cases eb
  rw [q] at hb
  cases hb
def TMa (X : Cx) (W : WX) (m : M (List D)) : TA := fun σ H Q => ∃ μ S ρ, Rel X.K X.mg μ S H ∧ EnvOk X.K μ H ρ σ ∧ Fine X.K X.mg W μ H σ (m ρ S) ∧
  ∀ ds S' vs μ' H', m ρ S = .ok ds S' → Step X.K X.mg μ H μ' S' H' → ResL X.K X.mg μ' H H' ds vs → Q vs H'
theorem EvA.pa {es : List Expr} {m : M (List D)} (h : EvA X W es m) : PA X es (TMa X W m) := by
  refine ⟨fun pos pins s σ H Q I ⟨μ, S, ρ, R, E, F, q⟩ => thn (h.run pos pins s σ H μ S ρ I R E F) fun us s' ⟨ds, S', vs, μ', H', e, I', r, st, x⟩ => ?_⟩
  exact ⟨vs, H', I', r, q ds S' vs μ' H' e st x⟩
theorem tma1 {β : Type} {ma : M (List D)} {f : List D → Store → Out β} {σ : L2.St} {H : Hp} {μ : List Addr} {S : Store} {ρ : Env'} (R : Rel X.K X.mg μ S H) (E : EnvOk X.K μ H ρ σ) (F : Fine X.K X.mg W μ H σ ((ma ρ S).bind f)) {Q' : List V → Hp → Prop}
    (q : ∀ ds S1 vs μ1 H1, ma ρ S = .ok ds S1 → Step X.K X.mg μ H μ1 S1 H1 → ResL X.K X.mg μ1 H H1 ds vs → Rel X.K X.mg μ1 S1 H1 → EnvOk X.K μ1 H1 ρ σ → Fine X.K X.mg W μ1 H1 σ (f ds S1) → Q' vs H1) : TMa X W ma σ H Q' :=
  ⟨μ, S, ρ, R, E, F.left, fun ds S1 vs μ1 H1 e st x => q ds S1 vs μ1 H1 e st x st.rel (E.step R st) (F.right R st e)⟩

/-! ### displays -/
def mTup (m : M (List D)) : M D := fun ρ S => (m ρ S).bind fun ds S1 => if ds.length ≤ sizeLine then .ok (.tup (boxL ds S1).1) (boxL ds S1).2 else .fail
def mLst (m : M (List D)) : M D := fun ρ S => (m ρ S).bind fun ds S1 => if ds.length ≤ sizeLine then .ok (.lst (boxL ds S1).1) (boxL ds S1).2 else .fail
theorem ev_tup {es : List Expr} {m : M (List D)} {x1} {pos : Pos} (h : EvA X W es m) : EvE X W (.Tuple es x1 pos) (mTup m) := by
  refine EvE.of_pe (pe_tup h.pa) fun σ H μ S ρ R E F => ?_
  unfold mTup at F ⊢
  refine tma1 R E F fun ds S1 vs μ1 H1 e st x R1 E1 F1 => ?_
  split at F1
  · rename_i hz
    obtain ⟨ext, st2, r2, _⟩ := Step.boxL x st
    refine ⟨by rw [← x.length]; exact hz, fun p hp => ⟨_, _, _, by rw [e, bind_ok, if_pos hz], st2.trans R (Step.fresh st2.rel hp), (new_tup st2.rel hp r2).back R st2⟩⟩
  · exact F1.elim
theorem ev_lst {es : List Expr} {m : M (List D)} {pos : Pos} (h : EvA X W es m) : EvE X W (.List es pos) (mLst m) := by
  refine EvE.of_pe (pe_lst h.pa) fun σ H μ S ρ R E F => ?_
  unfold mLst at F ⊢
  refine tma1 R E F fun ds S1 vs μ1 H1 e st x R1 E1 F1 => ?_
  split at F1
  · rename_i hz
    obtain ⟨ext, st2, r2, _⟩ := Step.boxL x st
    refine ⟨by rw [← x.length]; exact hz, fun p hp => ⟨_, _, _, by rw [e, bind_ok, if_pos hz], st2.trans R (Step.fresh st2.rel hp), (new_lst st2.rel hp r2).back R st2⟩⟩
  · exact F1.elim
end Ev
/-! Ev5: targets, statements, loops, comprehensions. -/
namespace Ev
open PySem PySem.Spec PyProof.Rows L2
variable {X : Cx} {W : WX}

/-! ### targets -/
abbrev Bind := D → Env' → Option Env'
/-- a target: b binds, sl are the slots that it stores -/
def TGm (X : Cx) (b : Bind) (sl : List Nat) : TG := fun v σ H Q => ∃ μ S ρ d ρ', Rel X.K X.mg μ S H ∧ EnvOk X.K μ H ρ σ ∧ Rep X.K μ H d v ∧ b d ρ = some ρ' ∧
  ∀ σ', EnvOk X.K μ H ρ' σ' → (∀ vs : List Nat, (∀ i ∈ sl, i ∈ vs) → wipe σ' vs = wipe σ vs) → Q σ' H
def EvG (X : Cx) (tg : Expr) (b : Bind) (sl : List Nat) : Prop := PG X tg (TGm X b sl)
theorem wipe_set {σ : L2.St} {i : Nat} {x : Option V} : ∀ {vs : List Nat}, i ∈ vs → wipe (σ.set i x) vs = wipe σ vs
  | [], h => nomatch h
  | v :: vs, h => by
    unfold wipe
    by_cases hv : i ∈ vs
    · rw [wipe_set hv]
    · have e : i = v := by
        rcases List.mem_cons.mp h with e | h
        · exact e
        · exact absurd h hv
      subst e
      have key : ∀ vs : List Nat, i ∉ vs → wipe (σ.set i x) vs = (wipe σ vs).set i x := by
        intro vs
        induction vs with
        | nil => intro _; rfl
        | cons w ws ih =>
          intro hw
          simp only [List.mem_cons, not_or] at hw
          unfold wipe
          rw [ih hw.2, List.set_comm _ _ hw.1]
      rw [key vs hv, List.set_set]
def bName (i : Nat) : Bind := fun d ρ => some (ρ.set i (some d))
theorem evg_name {i : Nat} {x : Str} {pos : Pos} (hN : X.N.Nodup) (hi : X.N[i]? = some x) (hx : Loc X.env.scope x) (hf : X.fn x = true ∨ X.env.scope.names.lookup x = some .local) : EvG X (.Name x pos) (bName i) [i] := by
  refine ⟨fun pins s σ H v u Q I r ⟨μ, S, ρ, d, ρ', R, E, x1, e, q⟩ => (pg_name hN hi hx hf).run pins s σ H v u Q I r ?_⟩
  cases e
  exact q _ (E.set i x1) fun vs h => wipe_set (h i (by simp))
abbrev BindL := List D → Env' → Option Env'
def TGsm (X : Cx) (b : BindL) (sl : List Nat) : TGs := fun vs σ H Q => ∃ μ S ρ ds ρ', Rel X.K X.mg μ S H ∧ EnvOk X.K μ H ρ σ ∧ RepL X.K μ H ds vs ∧ b ds ρ = some ρ' ∧
  ∀ σ', EnvOk X.K μ H ρ' σ' → (∀ vs : List Nat, (∀ i ∈ sl, i ∈ vs) → wipe σ' vs = wipe σ vs) → Q σ' H
def EvGs (X : Cx) (ts : List Expr) (b : BindL) (sl : List Nat) : Prop := PGs X ts (TGsm X b sl)
def bNil : BindL := fun ds ρ => match ds with
  | [] => some ρ
  | _ => none
def bCons (b : Bind) (r : BindL) : BindL := fun ds ρ => match ds with
  | d :: ds => match b d ρ with
    | some ρ1 => r ds ρ1
    | none => none
  | [] => none
theorem evgs_nil : EvGs X [] bNil [] := by
  refine ⟨fun pins s σ H vs us Q I r ⟨μ, S, ρ, ds, ρ', R, E, x1, e, q⟩ => pgs_nil.run pins s σ H vs us Q I r ?_⟩
  unfold bNil at e
  split at e
  · cases e
    rw [RepL.nil_iff] at x1
    exact ⟨x1, q σ E fun _ _ => rfl⟩
  · cases e
theorem evgs_cons {e : Expr} {es : List Expr} {b : Bind} {r : BindL} {sl sl' : List Nat} (h1 : EvG X e b sl) (h2 : EvGs X es r sl')
    (hs : (assignEach (e :: es) X.env).map (·.2) = assign e X.env :: (assignEach es X.env).map (·.2)) : EvGs X (e :: es) (bCons b r) (sl ++ sl') := by
  refine ⟨fun pins s σ H vs us Q I rr ⟨μ, S, ρ, ds, ρ', R, E, x1, e1, q⟩ => (pgs_cons h1 h2 hs).run pins s σ H vs us Q I rr ?_⟩
  unfold bCons at e1
  split at e1
  · rename_i d ds
    split at e1
    · rename_i ρ1 h
      obtain ⟨v, w, rfl, r1, r2⟩ := RepL.cons_iff.mp x1
      refine ⟨v, w, rfl, μ, S, ρ, d, ρ1, R, E, r1, h, fun σ1 E1 w1 => ?_⟩
      refine ⟨μ, S, ρ1, ds, ρ', R, E1, r2, e1, fun σ2 E2 w2 => q σ2 E2 fun vs hv => ?_⟩
      rw [w2 vs fun i hi => hv i (List.mem_append_right _ hi), w1 vs fun i hi => hv i (List.mem_append_left _ hi)]
    · cases e1
  · cases e1
def bTup (r : BindL) (n : Nat) : Bind := fun d ρ => match d with
  | .tup ds => if ds.length = n then r ds ρ else none
  | _ => none
theorem evg_tup {es : List Expr} {k : Nat} {r : BindL} {sl : List Nat} {n : Nat} {pos : Pos} (hc : X.calm = true) (h : EvGs X es r sl) (hn : (assignEach es X.env).length = n) (hst : (assignEach es X.env).findIdx? (·.1) = none) :
    EvG X (.Tuple es k pos) (bTup r n) sl := by
  refine ⟨fun pins s σ H v u Q I rr ⟨μ, S, ρ, d, ρ', R, E, x1, e1, q⟩ => (pg_tup hc h hn hst).run pins s σ H v u Q I rr ?_⟩
  unfold bTup at e1
  split at e1
  · rename_i ds
    split at e1
    · rename_i hl
      unfold Rep at x1
      obtain ⟨a, vs, rfl, hq, l⟩ := x1
      exact ⟨a, vs, rfl, hq, by rw [← l.length]; exact hl, μ, S, ρ, ds, ρ', R, E, l, e1, q⟩
    · cases e1
  · cases e1

/-! ### statements -/
inductive SOut where
  | next (ρ : Env') (S : Store) | brk (ρ : Env') (S : Store) | cont (ρ : Env') (S : Store) | ret (d : D) (S : Store) | exc (c : Str) (ks : List Str) (ds : List D) (ρ : Env') (S : Store) | fail
abbrev MS := Env' → Store → SOut
section
variable (K : PySem.W.Frag) (mg : Str → Option Value) (W : WX) (E : Ends) (μ : List Addr) (H : Hp)
def GoodS : SOut → Prop
  | .next ρ' S' => ∀ σ' μ' H', Step K mg μ H μ' S' H' → EnvOk K μ' H' ρ' σ' → E.nx σ' H'
  | .brk ρ' S' => ∀ σ' μ' H', Step K mg μ H μ' S' H' → EnvOk K μ' H' ρ' σ' → E.bk σ' H'
  | .cont ρ' S' => ∀ σ' μ' H', Step K mg μ H μ' S' H' → EnvOk K μ' H' ρ' σ' → E.ct σ' H'
  | .ret d S' => ∀ v μ' H', Step K mg μ H μ' S' H' → ResOk K mg μ' H H' d v → E.rt v H'
  | .exc c ks ds ρ' S' => ∀ cls dx σ' μ' H', Step K mg μ H μ' S' H' → EnvOk K μ' H' ρ' σ' → ExcRep K mg μ' H' c ks ds cls dx → W cls dx σ' H'
  | .fail => False
end
section
variable {K : PySem.W.Frag} {mg : Str → Option Value} {E E' : Ends} {μ μ1 : List Addr} {H H1 : Hp} {S S1 : Store}
theorem GoodS.back {r : SOut} (R : Rel K mg μ S H) (st : Step K mg μ H μ1 S1 H1) (h : GoodS K mg W E μ H r) : GoodS K mg W E μ1 H1 r := by
  cases r with
  | next ρ' S' => exact fun σ' μ' H' s2 e => h σ' μ' H' (st.trans R s2) e
  | brk ρ' S' => exact fun σ' μ' H' s2 e => h σ' μ' H' (st.trans R s2) e
  | cont ρ' S' => exact fun σ' μ' H' s2 e => h σ' μ' H' (st.trans R s2) e
  | ret d S' => exact fun v μ' H' s2 x => h v μ' H' (st.trans R s2) (x.back R st)
  | exc c ks ds ρ' S' => exact fun cls dx σ' μ' H' s2 e x => h cls dx σ' μ' H' (st.trans R s2) e x
  | fail => exact h
theorem GoodS.nf {r : SOut} (h : GoodS K mg W E μ H r) : r ≠ .fail := fun e => by subst e; exact h
end
def TMs (X : Cx) (W : WX) (m : MS) : TS := fun E σ H => ∃ μ S ρ, Rel X.K X.mg μ S H ∧ EnvOk X.K μ H ρ σ ∧ GoodS X.K X.mg W E μ H (m ρ S)
def EvS (X : Cx) (W : WX) (st : Stmt) (m : MS) : Prop := PS X st (TMs X W m)
def EvSs (X : Cx) (W : WX) (sts : List Stmt) (m : MS) : Prop := PSs X sts (TMs X W m)
theorem PS.imp {st : Stmt} {t t' : TS} (h : PS X st t) (q : ∀ D σ H, t' D σ H → t D σ H) : PS X st t' := ⟨fun pins s σ H D I hw => h.run pins s σ H D I (q D σ H hw)⟩
theorem PSs.imp {st : List Stmt} {t t' : TS} (h : PSs X st t) (q : ∀ D σ H, t' D σ H → t D σ H) : PSs X st t' := ⟨fun pins s σ H D I hw => h.run pins s σ H D I (q D σ H hw)⟩
/-- of an expression, then a statement -/
def Out.s {α : Type} (ρ : Env') (r : Out α) (f : α → Store → SOut) : SOut := match r with
  | .ok a S => f a S
  | .exc c ks ds S => .exc c ks ds ρ S
  | .fail => .fail
@[simp] theorem s_ok {α : Type} {ρ : Env'} {a : α} {S : Store} {f : α → Store → SOut} : (Out.ok a S).s ρ f = f a S := rfl
@[simp] theorem s_exc {α : Type} {ρ : Env'} {c : Str} {ks : List Str} {ds : List D} {S : Store} {f : α → Store → SOut} : (Out.exc c ks ds S : Out α).s ρ f = .exc c ks ds ρ S := rfl
@[simp] theorem s_fail {α : Type} {ρ : Env'} {f : α → Store → SOut} : (Out.fail : Out α).s ρ f = .fail := rfl
theorem GoodS.left {α : Type} {K : PySem.W.Frag} {mg : Str → Option Value} {D : Ends} {μ : List Addr} {H : Hp} {ρ : Env'} {σ : L2.St} {r : Out α} {f : α → Store → SOut} {S : Store} (R : Rel K mg μ S H) (E : EnvOk K μ H ρ σ) (h : GoodS K mg W D μ H (r.s ρ f)) : Fine K mg W μ H σ r := by
  cases r with
  | ok _ _ => trivial
  | exc c ks ds S' => exact fun cls dx μ' H' st x => h cls dx σ μ' H' st (E.step R st) x
  | fail => exact h
theorem GoodS.right {α : Type} {K : PySem.W.Frag} {mg : Str → Option Value} {D : Ends} {μ μ1 : List Addr} {H H1 : Hp} {ρ : Env'} {r : Out α} {f : α → Store → SOut} {S S1 : Store} {a : α} (R : Rel K mg μ S H) (st : Step K mg μ H μ1 S1 H1) (h : GoodS K mg W D μ H (r.s ρ f)) (e : r = .ok a S1) : GoodS K mg W D μ1 H1 (f a S1) := by
  subst e
  exact GoodS.back R st h
theorem tms1 {ma : M D} {f : D → Store → SOut} {E : Ends} {σ : L2.St} {H : Hp} {μ : List Addr} {S : Store} {ρ : Env'} (R : Rel X.K X.mg μ S H) (En : EnvOk X.K μ H ρ σ) (G : GoodS X.K X.mg W E μ H ((ma ρ S).s ρ f)) {Q' : V → Hp → Prop}
    (q : ∀ d S1 v μ1 H1, ma ρ S = .ok d S1 → Step X.K X.mg μ H μ1 S1 H1 → ResOk X.K X.mg μ1 H H1 d v → Rel X.K X.mg μ1 S1 H1 → EnvOk X.K μ1 H1 ρ σ → GoodS X.K X.mg W E μ1 H1 (f d S1) → Q' v H1) : TM X W ma σ H Q' :=
  ⟨μ, S, ρ, R, En, G.left R En, fun d S1 v μ1 H1 e st x => q d S1 v μ1 H1 e st x st.rel (En.step R st) (G.right R st e)⟩
theorem tmst1 {ma : M Bool} {f : Bool → Store → SOut} {E : Ends} {σ : L2.St} {H : Hp} {μ : List Addr} {S : Store} {ρ : Env'} (R : Rel X.K X.mg μ S H) (En : EnvOk X.K μ H ρ σ) (G : GoodS X.K X.mg W E μ H ((ma ρ S).s ρ f)) {Q' : Bool → Hp → Prop}
    (q : ∀ d S1 μ1 H1, ma ρ S = .ok d S1 → Step X.K X.mg μ H μ1 S1 H1 → Rel X.K X.mg μ1 S1 H1 → EnvOk X.K μ1 H1 ρ σ → GoodS X.K X.mg W E μ1 H1 (f d S1) → Q' d H1) : TMt X W ma σ H Q' :=
  ⟨μ, S, ρ, R, En, G.left R En, fun d S1 μ1 H1 e st => q d S1 μ1 H1 e st st.rel (En.step R st) (G.right R st e)⟩

def sNext : MS := fun ρ S => .next ρ S
def sSeq (a b : MS) : MS := fun ρ S => match a ρ S with
  | .next ρ1 S1 => b ρ1 S1
  | r => r
theorem evs_nil : EvSs X W [] sNext := PSs.imp pss_nil fun E σ H ⟨μ, S, ρ, R, En, G⟩ => G σ μ H (Step.refl R) En
theorem seq_good {a b : MS} {E : Ends} {σ : L2.St} {H : Hp} (h : TMs X W (sSeq a b) E σ H) : TMs X W a { E with nx := TMs X W b E } σ H := by
  obtain ⟨μ, S, ρ, R, En, G⟩ := h
  refine ⟨μ, S, ρ, R, En, ?_⟩
  unfold sSeq at G
  cases e : a ρ S with
  | next ρ1 S1 =>
    rw [e] at G
    exact fun σ' μ' H' st E' => ⟨μ', S1, ρ1, st.rel, E', GoodS.back R st G⟩
  | brk _ _ => rw [e] at G; exact G
  | cont _ _ => rw [e] at G; exact G
  | ret _ _ => rw [e] at G; exact G
  | exc _ _ _ _ _ => rw [e] at G; exact G
  | fail => rw [e] at G; exact G
theorem evs_cons {st : Stmt} {rest : List Stmt} {a b : MS} (h1 : EvS X W st a) (h2 : EvSs X W rest b) : EvSs X W (st :: rest) (sSeq a b) :=
  PSs.imp (pss_cons h1 h2) fun E σ H h => seq_good h
theorem evs_one {st : Stmt} {a : MS} (h1 : EvS X W st a) : EvSs X W [st] a := pss_one h1
theorem ev_pass {pos : Pos} : EvS X W (.Pass pos) sNext := PS.imp ps_pass fun E σ H ⟨μ, S, ρ, R, En, G⟩ => G σ μ H (Step.refl R) En
def sBrk : MS := fun ρ S => .brk ρ S
def sCont : MS := fun ρ S => .cont ρ S
theorem ev_brk {pos : Pos} : EvS X W (.Break pos) sBrk := PS.imp ps_break fun E σ H ⟨μ, S, ρ, R, En, G⟩ => G σ μ H (Step.refl R) En
theorem ev_cont {pos : Pos} : EvS X W (.Continue pos) sCont := PS.imp ps_continue fun E σ H ⟨μ, S, ρ, R, En, G⟩ => G σ μ H (Step.refl R) En
theorem ev_doc {x j pos pos'} : EvS X W (.Expr (.Constant (.str x) j pos) pos') sNext := PS.imp ps_doc fun E σ H ⟨μ, S, ρ, R, En, G⟩ => G σ μ H (Step.refl R) En
/-- no comprehension -/
def notComp : Expr → Bool
  | .ListComp _ _ _ _ => false
  | .SetComp _ _ _ _ => false
  | .DictComp _ _ _ _ _ => false
  | _ => true
theorem swaps_of {e : Expr} (h : notComp e = true) {t : Option Expr} {l : Nat} {env : Env} : swapsWith e t l env = pure false := by
  cases e <;> first | rfl | cases h
def sExpr (m : M D) : MS := fun ρ S => (m ρ S).s ρ fun _ S1 => .next ρ S1
theorem evs_expr {e : Expr} {m : M D} {pos : Pos} (he : EvE X W e m) (hs : notComp e = true) : EvS X W (.Expr e pos) (sExpr m) := by
  refine PS.imp (ps_expr he.pe (swaps_of hs)) fun E σ H ⟨μ, S, ρ, R, En, G⟩ => ?_
  unfold sExpr at G
  exact tms1 R En G fun d S1 v μ1 H1 e st x R1 E1 G1 => G1 σ μ1 H1 (Step.refl R1) E1
def sRet (m : M D) : MS := fun ρ S => (m ρ S).s ρ fun d S1 => .ret d S1
theorem evs_ret {e : Expr} {m : M D} {pos : Pos} (he : EvE X W e m) : EvS X W (.Return (some e) pos) (sRet m) := by
  refine PS.imp (ps_ret he.pe) fun E σ H ⟨μ, S, ρ, R, En, G⟩ => ?_
  unfold sRet at G
  refine ⟨μ, S, ρ, R, En, G.left R En, fun d S1 v μ1 H1 e st x => ?_⟩
  rw [e] at G
  exact G v μ1 H1 st x
def sRetN : MS := fun _ S => .ret .non S
theorem evs_retN {pos : Pos} : EvS X W (.Return none pos) sRetN := PS.imp ps_retN fun E σ H ⟨μ, S, ρ, R, En, G⟩ => G .non μ H (Step.refl R) res_non
def sIf (c : M Bool) (a b : MS) : MS := fun ρ S => (c ρ S).s ρ fun k S1 => if k = true then a ρ S1 else b ρ S1
theorem evs_if {c : Expr} {a b : List Stmt} {mc : M Bool} {ma mb : MS} {pos : Pos} (hc : EvT X W c mc) (ha : EvSs X W a ma) (hb : EvSs X W b mb) : EvS X W (.If c a b pos) (sIf mc ma mb) := by
  refine PS.imp (ps_if hc.pt ha hb) fun E σ H ⟨μ, S, ρ, R, En, G⟩ => ?_
  unfold sIf at G
  refine tmst1 R En G fun k S1 μ1 H1 e st R1 E1 G1 => ?_
  cases k with
  | true => rw [if_pos rfl] at G1 ⊢; exact ⟨μ1, S1, ρ, R1, E1, G1⟩
  | false => rw [if_neg Bool.false_ne_true] at G1 ⊢; exact ⟨μ1, S1, ρ, R1, E1, G1⟩
/-- target = e -/
def sAsg (b : Bind) (m : M D) : MS := fun ρ S => (m ρ S).s ρ fun d S1 => match b (box d S1).1 ρ with
  | some ρ1 => .next ρ1 (box d S1).2
  | none => .fail
theorem asg_good {b : Bind} {sl : List Nat} {d : D} {v : V} {E : Ends} {σ : L2.St} {H0 H : Hp} {μ : List Addr} {S : Store} {ρ : Env'} (R : Rel X.K X.mg μ S H) (En : EnvOk X.K μ H ρ σ) (x : ResOk X.K X.mg μ H0 H d v)
    {μ0 : List Addr} {S0 : Store} (R0 : Rel X.K X.mg μ0 S0 H0) (st : Step X.K X.mg μ0 H0 μ S H) (G : GoodS X.K X.mg W E μ0 H0 (match b (box d S).1 ρ with | some ρ1 => .next ρ1 (box d S).2 | none => .fail)) : TGm X b sl v σ H E.nx := by
  obtain ⟨μ', st', r, ext, e⟩ := st.box x
  split at G
  · rename_i ρ1 h
    exact ⟨μ', (box d S).2, ρ, (box d S).1, ρ1, st'.rel, by rw [e]; exact En.more R, r, h, fun σ' E' _ => G σ' μ' H st' E'⟩
  · exact G.elim
theorem evs_asg {tg e : Expr} {b : Bind} {sl : List Nat} {m : M D} {pos : Pos} (he : EvE X W e m) (hg : EvG X tg b sl) (hs : notComp e = true) (hw : swappedStores [tg] e X.env = pure none)
    (h1 : (assignEach [tg] X.env).map (·.2) = [assign tg X.env]) : EvS X W (.Assign [tg] e pos) (sAsg b m) := by
  have hss : swapsWithSole [tg] e pos.line X.env = pure false := swaps_of hs
  refine PS.imp (ps_asg he.pe hg hss hw h1) fun E σ H ⟨μ, S, ρ, R, En, G⟩ => ?_
  unfold sAsg at G
  refine ⟨μ, S, ρ, R, En, G.left R En, fun d S1 v μ1 H1 e st x => ?_⟩
  rw [e] at G
  exact asg_good st.rel (En.step R st) x R st G
theorem evs_set {i : Nat} {x : Str} {e : Expr} {m : M D} {pos pos' : Pos} (hN : X.N.Nodup) (hi : X.N[i]? = some x) (hx : Loc X.env.scope x) (hf : X.fn x = true ∨ X.env.scope.names.lookup x = some .local) (he : EvE X W e m) (hs : notComp e = true) :
    EvS X W (.Assign [.Name x pos'] e pos) (sAsg (bName i) m) := by
  refine PS.imp (ps_set hN hi hx he.pe (swaps_of hs) hf) fun E σ H ⟨μ, S, ρ, R, En, G⟩ => ?_
  unfold sAsg at G
  refine ⟨μ, S, ρ, R, En, G.left R En, fun d S1 v μ1 H1 e st x => ?_⟩
  rw [e] at G
  obtain ⟨μ', S', ρ2, d2, ρ', R', E', r', b', q'⟩ := asg_good (b := bName i) (sl := [i]) st.rel (En.step R st) x R st G
  cases b'
  exact q' _ (E'.set i r') fun vs h => wipe_set (h i (by simp))

/-! ### while -/
def whileN (c : M Bool) (b : MS) : Nat → MS
  | 0 => fun _ _ => .fail
  | n + 1 => fun ρ S => (c ρ S).s ρ fun k S1 => if k = true then (match b ρ S1 with
      | .next ρ2 S2 => whileN c b n ρ2 S2
      | .cont ρ2 S2 => whileN c b n ρ2 S2
      | .brk ρ2 S2 => .next ρ2 S2
      | r => r) else .next ρ S1
theorem whileN_succ {c : M Bool} {b : MS} {n : Nat} {ρ : Env'} {S : Store} : whileN c b (n + 1) ρ S = (c ρ S).s ρ fun k S1 => if k = true then (match b ρ S1 with
      | .next ρ2 S2 => whileN c b n ρ2 S2
      | .cont ρ2 S2 => whileN c b n ρ2 S2
      | .brk ρ2 S2 => .next ρ2 S2
      | r => r) else .next ρ S1 := rfl
theorem whileN_mono {c : M Bool} {b : MS} : ∀ {n : Nat} {ρ : Env'} {S : Store}, whileN c b n ρ S ≠ .fail → whileN c b (n + 1) ρ S = whileN c b n ρ S
  | 0, ρ, S, h => absurd rfl h
  | n + 1, ρ, S, h => by
    have ih := @whileN_mono c b n
    rw [whileN_succ, whileN_succ (n := n)]
    rw [whileN_succ] at h
    cases hc : c ρ S with
    | fail => rfl
    | exc _ _ _ _ => rfl
    | ok k S1 =>
      rw [hc, s_ok] at h
      rw [s_ok, s_ok]
      cases k with
      | false => rfl
      | true =>
        rw [if_pos rfl] at h ⊢
        rw [if_pos rfl]
        cases hb : b ρ S1 with
        | next ρ2 S2 => rw [hb] at h; exact ih h
        | cont ρ2 S2 => rw [hb] at h; exact ih h
        | brk _ _ => rfl
        | ret _ _ => rfl
        | exc _ _ _ _ _ => rfl
        | fail => rfl
theorem whileN_le {c : M Bool} {b : MS} {n m : Nat} {ρ : Env'} {S : Store} (h : whileN c b n ρ S ≠ .fail) (hm : n ≤ m) : whileN c b m ρ S = whileN c b n ρ S := by
  induction hm with
  | refl => rfl
  | step _ ih => rw [whileN_mono (by rw [ih]; exact h), ih]
open Classical in
noncomputable def sWhile (c : M Bool) (b : MS) : MS := fun ρ S => if h : ∃ n, whileN c b n ρ S ≠ .fail then whileN c b (Classical.choose h) ρ S else .fail
theorem sWhile_of {c : M Bool} {b : MS} {n : Nat} {ρ : Env'} {S : Store} (h : whileN c b n ρ S ≠ .fail) : sWhile c b ρ S = whileN c b n ρ S := by
  unfold sWhile
  have hx : ∃ n, whileN c b n ρ S ≠ .fail := ⟨n, h⟩
  rw [dif_pos hx]
  have h2 := Classical.choose_spec hx
  rcases Nat.le_total n (Classical.choose hx) with q | q
  · exact whileN_le h q
  · exact (whileN_le h2 q).symm
theorem sWhile_ex {c : M Bool} {b : MS} {ρ : Env'} {S : Store} (h : sWhile c b ρ S ≠ .fail) : ∃ n, whileN c b n ρ S = sWhile c b ρ S := by
  unfold sWhile at h ⊢
  split at h
  · rename_i hx; rw [dif_pos hx]; exact ⟨_, rfl⟩
  · exact absurd rfl h
/-- a loop is its first turn and the loop -/
theorem sWhile_eq (c : M Bool) (b : MS) (ρ : Env') (S : Store) : sWhile c b ρ S = (c ρ S).s ρ fun k S1 => if k = true then (match b ρ S1 with
      | .next ρ2 S2 => sWhile c b ρ2 S2
      | .cont ρ2 S2 => sWhile c b ρ2 S2
      | .brk ρ2 S2 => .next ρ2 S2
      | r => r) else .next ρ S1 := by
  have one : ∀ n, whileN c b (n + 1) ρ S = (c ρ S).s ρ fun k S1 => if k = true then (match b ρ S1 with
      | .next ρ2 S2 => whileN c b n ρ2 S2
      | .cont ρ2 S2 => whileN c b n ρ2 S2
      | .brk ρ2 S2 => .next ρ2 S2
      | r => r) else .next ρ S1 := fun n => whileN_succ
  have step : ∀ n, whileN c b n ρ S ≠ .fail → whileN c b n ρ S = (c ρ S).s ρ fun k S1 => if k = true then (match b ρ S1 with
      | .next ρ2 S2 => sWhile c b ρ2 S2
      | .cont ρ2 S2 => sWhile c b ρ2 S2
      | .brk ρ2 S2 => .next ρ2 S2
      | r => r) else .next ρ S1 := by
    intro n h
    cases n with
    | zero => exact absurd rfl h
    | succ n =>
      rw [one] at h ⊢
      cases hc : c ρ S with
      | fail => rfl
      | exc _ _ _ _ => rfl
      | ok k S1 =>
        rw [hc, s_ok] at h
        rw [s_ok, s_ok]
        cases k with
        | false => rfl
        | true =>
          rw [if_pos rfl] at h ⊢
          rw [if_pos rfl]
          cases hb : b ρ S1 with
          | next ρ2 S2 => rw [hb] at h; exact (sWhile_of h).symm
          | cont ρ2 S2 => rw [hb] at h; exact (sWhile_of h).symm
          | _ => rfl
  by_cases hx : ∃ n, whileN c b n ρ S ≠ .fail
  · obtain ⟨n, h⟩ := hx
    rw [sWhile_of h]
    exact step n h
  · have e0 : sWhile c b ρ S = .fail := by unfold sWhile; rw [dif_neg hx]
    rw [e0]
    have no : ∀ n, whileN c b n ρ S = .fail := fun n => Classical.byContradiction fun h => hx ⟨n, h⟩
    cases hc : c ρ S with
    | fail => rfl
    | exc _ _ _ _ => have := no 1; rw [one, hc] at this; cases this
    | ok k S1 =>
      rw [s_ok]
      cases k with
      | false => have := no 1; rw [one, hc] at this; cases this
      | true =>
        rw [if_pos rfl]
        have no2 : ∀ n, (match b ρ S1 with
            | .next ρ2 S2 => whileN c b n ρ2 S2
            | .cont ρ2 S2 => whileN c b n ρ2 S2
            | .brk ρ2 S2 => .next ρ2 S2
            | r => r) = SOut.fail := fun n => by have := no (n + 1); rw [one, hc, s_ok, if_pos rfl] at this; exact this
        cases hb : b ρ S1 with
        | next ρ2 S2 =>
          rw [hb] at no2
          have : ¬ ∃ n, whileN c b n ρ2 S2 ≠ .fail := fun ⟨n, h⟩ => h (no2 n)
          show SOut.fail = sWhile c b ρ2 S2
          unfold sWhile; rw [dif_neg this]
        | cont ρ2 S2 =>
          rw [hb] at no2
          have : ¬ ∃ n, whileN c b n ρ2 S2 ≠ .fail := fun ⟨n, h⟩ => h (no2 n)
          show SOut.fail = sWhile c b ρ2 S2
          unfold sWhile; rw [dif_neg this]
        | brk _ _ => rw [hb] at no2; exact absurd (no2 0) (fun z => nomatch z)
        | ret _ _ => rw [hb] at no2; exact absurd (no2 0) (fun z => nomatch z)
        | exc _ _ _ _ _ => rw [hb] at no2; exact absurd (no2 0) (fun z => nomatch z)
        | fail => rfl
theorem evs_while {c : Expr} {body : List Stmt} {mc : M Bool} {mb : MS} {pos : Pos} (hp : PassesOwn (model X.prog X.w) X.A X.env X.xe) (hc : EvT X W c mc) (hb : EvSs X W body mb) : EvS X W (.While c body [] pos) (sWhile mc mb) := by
  refine PS.imp (ps_while hp hc.pt hb) fun E σ H ⟨μ, S, ρ, R, En, G⟩ => ?_
  obtain ⟨n, hn⟩ := sWhile_ex G.nf
  rw [← hn] at G
  refine ⟨fun m σ H => ∃ μ S ρ, Rel X.K X.mg μ S H ∧ EnvOk X.K μ H ρ σ ∧ GoodS X.K X.mg W E μ H (whileN mc mb m ρ S), ⟨n, μ, S, ρ, R, En, G⟩, ?_⟩
  rintro m σ H ⟨μ, S, ρ, R, En, G⟩
  cases m with
  | zero => exact G.elim
  | succ m =>
    rw [whileN_succ] at G
    refine tmst1 R En G fun k S1 μ1 H1 e st R1 E1 G1 => ?_
    cases k with
    | false => rw [if_neg Bool.false_ne_true] at G1 ⊢; exact G1 σ μ1 H1 (Step.refl R1) E1
    | true =>
      rw [if_pos rfl] at G1 ⊢
      refine ⟨fun σ H => ∃ μ S ρ, Rel X.K X.mg μ S H ∧ EnvOk X.K μ H ρ σ ∧ GoodS X.K X.mg W E μ H (whileN mc mb m ρ S), fun σ' H' h => ⟨m, Nat.lt_succ_self m, h⟩, μ1, S1, ρ, R1, E1, ?_⟩
      cases hb2 : mb ρ S1 with
      | next ρ2 S2 => rw [hb2] at G1; exact fun σ' μ' H' s2 e2 => ⟨μ', S2, ρ2, s2.rel, e2, GoodS.back R1 s2 G1⟩
      | cont ρ2 S2 => rw [hb2] at G1; exact fun σ' μ' H' s2 e2 => ⟨μ', S2, ρ2, s2.rel, e2, GoodS.back R1 s2 G1⟩
      | brk ρ2 S2 => rw [hb2] at G1; exact G1
      | ret _ _ => rw [hb2] at G1; exact G1
      | exc _ _ _ _ _ => rw [hb2] at G1; exact G1
      | fail => rw [hb2] at G1; exact G1
end Ev
/-! Ev6: what is walked; for, comprehensions. -/
namespace Ev
open PySem PySem.Spec PyProof.Rows L2
variable {X : Cx} {W : WX}

abbrev Guard := List (Nat × List D)
/-- the list that is walked stays -/
def gOk : Guard → Store → Prop
  | [], _ => True
  | (n, ds) :: g, S => S[n]? = some (.lst ds) ∧ gOk g S
theorem gOk_append {g g' : Guard} {S : Store} : gOk (g ++ g') S ↔ gOk g S ∧ gOk g' S := by
  induction g with
  | nil => exact ⟨fun h => ⟨trivial, h⟩, fun h => h.2⟩
  | cons p g ih =>
    obtain ⟨n, ds⟩ := p
    show (S[n]? = some (.lst ds) ∧ gOk (g ++ g') S) ↔ (S[n]? = some (.lst ds) ∧ gOk g S) ∧ gOk g' S
    rw [ih]
    exact ⟨fun ⟨a, b, c⟩ => ⟨⟨a, b⟩, c⟩, fun ⟨⟨a, b⟩, c⟩ => ⟨a, b, c⟩⟩
/-- more is known of the heap, all else stays -/
def Ext (H H' : Hp) : Prop := ∀ a o, H a = some o → H' a = some o
section
variable {K : PySem.W.Frag} {mg : Str → Option Value} {μ : List Addr} {H H' : Hp} {S : Store}
theorem Ext.refl : Ext H H := fun _ _ h => h
theorem Ext.fresh {p : Addr} {o : HO} (h : H p = none) : Ext H (upd H p o) := fun a u e => by rw [upd_ne (ne_of_none e h)]; exact e
theorem Ext.keep (x : Ext H H') : Keep μ H H' := fun a o h _ => x a o h
theorem Rel.ext (R : Rel K mg μ S H) (x : Ext H H') : Rel K mg μ S H' := by
  refine ⟨R.nd, R.len, fun n a c h1 h2 => ?_⟩
  obtain ⟨C, dx, vs, q1, q2, q3, q4⟩ := R.cell n a c h1 h2
  exact ⟨C, dx, vs, q1, x _ _ q2, q3, q4.keep R x.keep⟩
theorem Step.ext (R : Rel K mg μ S H) (x : Ext H H') : Step K mg μ H μ S H' := ⟨[], by simp, R.ext x, x.keep, fun _ h => nomatch h⟩
/-- what an iterator gives: the items, turn by turn, whatever comes of the rest -/
def ItOk (K : PySem.W.Frag) (mg : Str → Option Value) (J : It) (items : List D) (g : Guard) (μ0 : List Addr) (S0 : Store) (H0 : Hp) : Prop :=
  ∀ μ S H, Step K mg μ0 H0 μ S H → gOk g S → (∀ i, i < items.length → J.go i H) ∧ J.stop items.length H ∧
    ∀ (i : Nat) x H', i < items.length → J.yld i H x H' → Ext H H' ∧ ∃ d, items[i]? = some d ∧ Rep K μ H' d x
end
def TMi (X : Cx) (W : WX) (m : M (List D × Guard)) : TI := fun σ H R => ∃ μ S ρ, Rel X.K X.mg μ S H ∧ EnvOk X.K μ H ρ σ ∧ Fine X.K X.mg W μ H σ (m ρ S) ∧
  ∀ p S' μ' H' J, m ρ S = .ok p S' → Step X.K X.mg μ H μ' S' H' → ItOk X.K X.mg J p.1 p.2 μ' S' H' → R J H'
def EvI (X : Cx) (W : WX) (tg iter : Expr) (m : M (List D × Guard)) : Prop := PI X tg iter (TMi X W m)
theorem PI.imp {tg iter : Expr} {t t' : TI} (h : PI X tg iter t) (q : ∀ σ H R, t' σ H R → t σ H R) : PI X tg iter t' := ⟨fun pins s σ H R I hw => h.run pins s σ H R I (q σ H R hw)⟩

/-! ### over lists, tuples, texts -/
def itemsD (S : Store) (d : D) : Option (List D × Guard) := match d with
  | .tup ds => some (ds, [])
  | .lst ds => some (ds, [])
  | .fro ds => some (ds, [])
  | .str x => some (x.cps.toList.map (fun c => D.str ⟨#[c]⟩), [])
  | .ref n => match S[n]? with
    | some (.lst ds) => some (ds, [(n, ds)])
    | _ => none
  | _ => none
def mIter (m : M D) : M (List D × Guard) := fun ρ S => (m ρ S).bind fun d S1 => Out.of (itemsD S1 d) S1
section
variable {K : PySem.W.Frag} {mg : Str → Option Value} {μ : List Addr} {H0 H : Hp} {S : Store}
/-- a list that is walked, whatever holds it -/
theorem itl_ok {d : D} {ds : List D} {g : Guard} {v : V} (R : Rel K mg μ S H) (x : ResOk K mg μ H0 H d v) (h : itemsD S d = some (ds, g)) (hl : seqT d = none) (hs : ∀ z, d ≠ .str z) :
    ∃ a, v = .ref a ∧ (∃ xs, SqL K H a xs) ∧ ItOk K mg (Itl K a) ds g μ S H := by
  -- at any later heap: the list's items are ds
  have key : ∀ a, (∀ μ' S' H', Step K mg μ H μ' S' H' → gOk g S' → ∃ vs, SqL K H' a vs ∧ RepL K μ' H' ds vs) → ItOk K mg (Itl K a) ds g μ S H := by
    intro a q μ' S' H' st hg
    obtain ⟨vs, hq, l⟩ := q μ' S' H' st hg
    refine ⟨fun i hi => ⟨vs, vs[i]'(by rw [← l.length]; exact hi), hq, by simp⟩, ⟨vs, hq, Nat.le_of_eq l.length.symm⟩, fun i y H2 hi hy => ?_⟩
    obtain ⟨e, hy⟩ := hy
    subst e
    have e2 := hy vs hq
    have hd : ds[i]? = some ds[i] := List.getElem?_eq_getElem hi
    obtain ⟨w, ew, rw'⟩ := l.get hd
    rw [e2] at ew
    cases ew
    exact ⟨Ext.refl, ds[i], hd, rw'⟩
  cases d with
  | tup _ => cases hl
  | str z => exact absurd rfl (hs z)
  | lst es =>
    cases h
    unfold ResOk at x
    obtain ⟨a, rfl, hc, hm, _⟩ := x
    obtain ⟨C, dx, vs, _, e, _, l⟩ := id hc
    refine ⟨a, rfl, ⟨vs, SqL.of e⟩, key a fun μ' S' H' st _ => ?_⟩
    obtain ⟨⟨_, _, vs', _, e', _, l'⟩, _⟩ := hc.step R st hm
    exact ⟨vs', SqL.of e', l'⟩
  | fro es =>
    cases h
    have x := x.rep rfl
    unfold Rep at x
    obtain ⟨a, vs, rfl, hq, l⟩ := x
    refine ⟨a, rfl, ⟨vs, hq.seq⟩, key a fun μ' S' H' st _ => ?_⟩
    have x' : Rep K μ' H' (.fro ds) (.ref a) := st.rep R (by unfold Rep; exact ⟨a, vs, rfl, hq, l⟩)
    unfold Rep at x'
    obtain ⟨b, vs', e, hq', l'⟩ := x'
    cases e
    exact ⟨vs', hq'.seq, l'⟩
  | ref n =>
    unfold itemsD at h
    dsimp only at h
    split at h
    · rename_i es hn
      cases h
      have x := x.rep rfl
      unfold Rep at x
      obtain ⟨a, ha, rfl⟩ := x
      obtain ⟨C, dx, vs, _, e, _, l⟩ := R.cell n a _ ha hn
      refine ⟨a, rfl, ⟨vs, SqL.of e⟩, key a fun μ' S' H' st hg => ?_⟩
      obtain ⟨ext, em, R', _⟩ := id st
      have ha' : μ'[n]? = some a := by rw [em, List.getElem?_append_left (List.getElem?_eq_some_iff.mp ha).1]; exact ha
      have hg : S'[n]? = some (.lst ds) := hg.1
      obtain ⟨_, _, vs', _, e', _, l'⟩ := R'.cell n a _ ha' hg
      exact ⟨vs', SqL.of e', l'⟩
    · cases h
  | _ => cases h
theorem itt_ok {ds : List D} {v : V} (R : Rel K mg μ S H) (x : ResOk K mg μ H0 H (.tup ds) v) : ∃ a, v = .ref a ∧ (∃ xs, SqT K H a xs) ∧ ItOk K mg (Itt K a) ds [] μ S H := by
  have x := x.rep rfl
  unfold Rep at x
  obtain ⟨a, vs, rfl, hq, l⟩ := x
  refine ⟨a, rfl, ⟨vs, hq⟩, fun μ' S' H' st _ => ?_⟩
  have x' : Rep K μ' H' (.tup ds) (.ref a) := st.rep R (by unfold Rep; exact ⟨a, vs, rfl, hq, l⟩)
  unfold Rep at x'
  obtain ⟨b, vs', e, hq', l'⟩ := x'
  cases e
  refine ⟨fun i hi => ⟨vs', vs'[i]'(by rw [← l'.length]; exact hi), hq', by simp⟩, ⟨vs', hq', Nat.le_of_eq l'.length.symm⟩, fun i y H2 hi hy => ?_⟩
  obtain ⟨e, hy⟩ := hy
  subst e
  have e2 := hy vs' hq'
  have hd : ds[i]? = some ds[i] := List.getElem?_eq_getElem hi
  obtain ⟨w, ew, rw'⟩ := l'.get hd
  rw [e2] at ew
  cases ew
  exact ⟨Ext.refl, ds[i], hd, rw'⟩
theorem its_ok {x : Str} : ItOk K mg (Its x) (x.cps.toList.map (fun c => D.str ⟨#[c]⟩)) [] μ S H := by
  intro μ' S' H' st _
  refine ⟨fun i hi => ?_, ?_, fun i y H2 hi hy => ?_⟩
  · show i < x.cps.size
    simpa using hi
  · show x.cps.size ≤ _
    simp
  · obtain ⟨e, c, hc, ev⟩ := hy
    subst e
    refine ⟨Ext.refl, .str ⟨#[c]⟩, ?_, by unfold Rep; exact ev⟩
    simp [hc]
end
theorem evi_val {tg e : Expr} {m : M D} (he : EvE X W e m) : EvI X W tg e (mIter m) := by
  refine ⟨fun pins s σ H R I ⟨μ, S, ρ, Re, E, F, q⟩ => ?_⟩
  unfold mIter at F q
  refine thn (he.run pins s σ H μ S ρ I Re E F.left) fun u s1 ⟨d, S1, v, μ1, H1, e1, I1, r1, st, x⟩ => ?_
  obtain ⟨p, ep⟩ := fine_of (Fine.right (f := fun d S1 => Out.of (itemsD S1 d) S1) Re st F e1)
  rw [e1, bind_ok, ep] at q
  obtain ⟨ds, g⟩ := p
  have R1 := st.rel
  by_cases hs : ∃ z, d = .str z
  · obtain ⟨z, rfl⟩ := hs
    cases ep
    cases rep_str x
    obtain ⟨t, rfl⟩ := r1
    have q' := q (_, []) S1 μ1 H1 (Its z) rfl st its_ok
    cases ha : z.cps.all (· < 128)
    · exact wpAny_pyIter_wide ha (pi_one (tk := s1.toks) I1 _ (turn_str _ z t "str_iterator" (.inr rfl)) ⟨_, Heap.get?_push_size _ rfl, rfl, rfl⟩ q')
    · exact wpAny_pyIter_ascii ha (pi_one (tk := s1.toks) I1 _ (turn_str _ z t "str_ascii_iterator" (.inl rfl)) ⟨_, Heap.get?_push_size _ rfl, rfl, rfl⟩ q')
  · cases hd : seqT d with
    | some es =>
      cases d with
      | tup ds' =>
        cases ep
        obtain ⟨a, rfl, ⟨xs, hq⟩, hi⟩ := itt_ok R1 x
        cases r1
        obtain ⟨its, rv, pl, hz⟩ := I1.tuple hq
        refine wpAny_pyIter_tuple (show s1.heap.IsTuple a its.toArray from pl) ?_
        refine ⟨s1.heap.objs.size, [s1.heap.objs.size], _, _, H1, rfl, I1.kept (t' := s1.toks) fun b o e => Heap.get?_push_of_some _ e, turn_tuple a _, ⟨_, Heap.get?_push_size _ rfl, rfl, rfl⟩, fun b hb => ?_, q _ S1 μ1 H1 _ rfl st hi⟩
        have e : b = s1.heap.objs.size := by simpa using hb
        subst e
        exact I1.fpOk (Nat.le_refl _) (I1.hok.fresh (Nat.le_refl _))
      | _ => cases hd
    | none =>
      obtain ⟨a, rfl, ⟨xs, hq⟩, hi⟩ := itl_ok R1 x ep hd fun z e => hs ⟨z, e⟩
      cases r1
      obtain ⟨its, rv, pl, hz⟩ := I1.list hq
      refine wpAny_pyIter_list pl.isList ?_
      refine ⟨s1.heap.objs.size, [s1.heap.objs.size], _, _, H1, rfl, I1.kept (t' := s1.toks) fun b o e => Heap.get?_push_of_some _ e, turn_list a _, ⟨_, Heap.get?_push_size _ rfl, rfl, rfl⟩, fun b hb => ?_, q _ S1 μ1 H1 _ rfl st hi⟩
      have e : b = s1.heap.objs.size := by simpa using hb
      subst e
      exact I1.fpOk (Nat.le_refl _) (I1.hok.fresh (Nat.le_refl _))

/-! ### ranges -/
def rangeL (lo : Int) (n : Nat) : List D := (List.range n).map fun i => D.int (lo + (i : Nat))
theorem itr_ok {K : PySem.W.Frag} {mg : Str → Option Value} {μ : List Addr} {H : Hp} {S : Store} {lo : Int} {n : Nat} : ItOk K mg (Itr lo n) (rangeL lo n) [] μ S H := by
  intro μ' S' H' st _
  have hl : (rangeL lo n).length = n := by simp [rangeL]
  refine ⟨fun i hi => by rw [hl] at hi; exact hi, by rw [hl]; exact Nat.le_refl _, fun i y H2 hi hy => ?_⟩
  obtain ⟨e, ev⟩ := hy
  subst e
  rw [hl] at hi
  refine ⟨Ext.refl, .int (lo + (i : Nat)), by simp [rangeL, hi], by unfold Rep; exact ev⟩
open Classical in
noncomputable def mRange1 (m : M D) : M (List D × Guard) := fun ρ S => (m ρ S).bind fun d S1 => match d with
  | .int j => if In62 j then .ok (rangeL 0 j.toNat, []) S1 else .fail
  | _ => .fail
open Classical in
noncomputable def mRange2 (m m' : M D) : M (List D × Guard) := fun ρ S => (m ρ S).bind fun d S1 => (m' ρ S1).bind fun e S2 => match d, e with
  | .int i, .int j => if In62 i ∧ In62 j then .ok (rangeL i (j - i).toNat, []) S2 else .fail
  | _, _ => .fail
theorem evi_range1 {tg a : Expr} {m : M D} {p pos : Pos} (hg : Gl X "range") (hm : X.mg "range" = none) (ha : EvE X W a m) (hs : notStar a = true) : EvI X W tg (.Call (.Name "range" p) [a] [] pos) (mRange1 m) := by
  refine PI.imp (pi_range1 hg hm (pa_cons ha.pe pa_nil (star_of hs)) (by rw [star_of hs]; rfl)) fun σ H R ⟨μ, S, ρ, Re, E, F, q⟩ => ?_
  unfold mRange1 at F q
  refine tm1 Re E F fun d S1 v μ1 H1 e st x R1 E1 F1 => ?_
  split at F1
  · rename_i j
    split at F1
    · rename_i hj
      cases rep_int x
      exact ⟨j, rfl, hj.1, hj.2, q _ S1 μ1 H1 _ (by rw [e, bind_ok]; exact if_pos hj) st itr_ok⟩
    · exact F1.elim
  · exact F1.elim
theorem evi_range2 {tg a b : Expr} {m m' : M D} {p pos : Pos} (hg : Gl X "range") (hm : X.mg "range" = none) (ha : EvE X W a m) (hb : EvE X W b m') (hs : notStar a = true) (hs' : notStar b = true) : EvI X W tg (.Call (.Name "range" p) [a, b] [] pos) (mRange2 m m') := by
  refine PI.imp (pi_range2 hg hm (pa_cons ha.pe (pa_cons hb.pe pa_nil (star_of hs')) (star_of hs)) (by rw [star_of hs, star_of hs']; rfl) (by rw [star_of hs']; rfl)) fun σ H R ⟨μ, S, ρ, Re, E, F, q⟩ => ?_
  unfold mRange2 at F q
  refine tm1 Re E F fun d S1 v μ1 H1 e st x R1 E1 F1 => ?_
  refine tm1 R1 E1 F1 fun d2 S2 v2 μ2 H2 e2 st2 x2 R2 E2 F2 => ?_
  split at F2
  · rename_i i j
    split at F2
    · rename_i hj
      cases rep_int x
      cases rep_int x2
      exact ⟨i, j, rfl, ⟨hj.1.lo, hj.1.hi, hj.2.lo, hj.2.hi⟩, q _ S2 μ2 H2 _ (by rw [e, bind_ok, e2, bind_ok]; exact if_pos hj) (st.trans Re st2) itr_ok⟩
    · exact F2.elim
  · exact F2.elim

/-! ### for -/
open Classical in
noncomputable def forD (b : Bind) (body : MS) (g : Guard) : List D → MS
  | [], ρ, S => if gOk g S then .next ρ S else .fail
  | d :: ds, ρ, S => if gOk g S then (match b d ρ with
    | none => .fail
    | some ρ1 => match body ρ1 S with
      | .next ρ2 S2 => forD b body g ds ρ2 S2
      | .cont ρ2 S2 => forD b body g ds ρ2 S2
      | .brk ρ2 S2 => .next ρ2 S2
      | r => r) else .fail
noncomputable def sFor (b : Bind) (mi : M (List D × Guard)) (body : MS) : MS := fun ρ S => (mi ρ S).s ρ fun p S1 => forD b body p.2 p.1 ρ S1
theorem folded_of {e : Expr} (h : (match e with | .Set _ _ _ => false | _ => true) = true) {env : Env} (x : Value) : foldedSetIterable e env x = pure x := by
  cases e <;> first | rfl | cases h
def notSet : Expr → Bool
  | .Set _ _ _ => false
  | _ => true
theorem folded_notSet {e : Expr} (h : notSet e = true) {env : Env} (x : Value) : foldedSetIterable e env x = pure x := by
  cases e <;> first | rfl | cases h
theorem evs_for {tg iter : Expr} {body : List Stmt} {b : Bind} {sl : List Nat} {mi : M (List D × Guard)} {mb : MS} {pos : Pos} (hp : PassesOwn (model X.prog X.w) X.A X.env X.xe) (hc : X.calm = true) (hi : EvI X W tg iter mi) (hg : EvG X tg b sl) (hb : EvSs X W body mb)
    (hs : notSet iter = true) : EvS X W (.For tg iter body [] pos) (sFor b mi mb) := by
  refine PS.imp (ps_for hp hc hi hg hb (folded_notSet hs)) fun E σ H ⟨μ, S, ρ, R, En, G⟩ => ?_
  unfold sFor at G
  refine ⟨μ, S, ρ, R, En, G.left R En, fun p S1 μ1 H1 J e st hJ => ?_⟩
  obtain ⟨items, g⟩ := p
  have G1 : GoodS X.K X.mg W E μ1 H1 (forD b mb g items ρ S1) := GoodS.right (f := fun p S1 => forD b mb p.2 p.1 ρ S1) R st G e
  have R1 := st.rel
  refine ⟨fun i m σ H => m = items.length - i ∧ i ≤ items.length ∧ ∃ μ S ρ, Step X.K X.mg μ1 H1 μ S H ∧ EnvOk X.K μ H ρ σ ∧ GoodS X.K X.mg W E μ H (forD b mb g (items.drop i) ρ S),
    ⟨items.length, by simp, Nat.zero_le _, μ1, S1, ρ, Step.refl R1, En.step R st, by rw [List.drop_zero]; exact G1⟩, ?_⟩
  rintro i m σ H ⟨rfl, hi, μ, S, ρ, st1, E1, G⟩
  have R2 := st1.rel
  by_cases hlt : i < items.length
  · rw [List.drop_eq_getElem_cons hlt, forD] at G
    split at G
    · rename_i hgk
      obtain ⟨q1, q2, q3⟩ := hJ μ S H st1 hgk
      refine .inr ⟨q1 i hlt, fun σ H => ∃ μ S ρ, Step X.K X.mg μ1 H1 μ S H ∧ EnvOk X.K μ H ρ σ ∧ GoodS X.K X.mg W E μ H (forD b mb g (items.drop (i + 1)) ρ S), fun σ' H' h => ⟨items.length - (i + 1), by omega, rfl, hlt, h⟩, fun x H2 hy => ?_⟩
      obtain ⟨hx, d, hd, r⟩ := q3 i x H2 hlt hy
      have : items[i] = d := by rw [List.getElem?_eq_getElem hlt] at hd; exact Option.some.inj hd
      rw [this] at G
      have st2 : Step X.K X.mg μ H μ S H2 := Step.ext R2 hx
      have R3 := st2.rel
      split at G
      · exact G.elim
      · rename_i ρ1 hb1
        refine ⟨μ, S, ρ, d, ρ1, R3, E1.step R2 st2, r, hb1, fun σ' E' _ => ⟨μ, S, ρ1, R3, E', ?_⟩⟩
        have st12 := st1.trans R1 st2
        cases hbo : mb ρ1 S with
        | next ρ2 S2 => rw [hbo] at G; exact fun σ2 μ2 H3 s3 e3 => ⟨μ2, S2, ρ2, st12.trans R1 s3, e3, GoodS.back R2 (st2.trans R2 s3) G⟩
        | cont ρ2 S2 => rw [hbo] at G; exact fun σ2 μ2 H3 s3 e3 => ⟨μ2, S2, ρ2, st12.trans R1 s3, e3, GoodS.back R2 (st2.trans R2 s3) G⟩
        | brk ρ2 S2 => rw [hbo] at G; exact GoodS.back (E := E) (r := .next ρ2 S2) R2 st2 G
        | ret d2 S2 => rw [hbo] at G; exact GoodS.back (E := E) (r := .ret d2 S2) R2 st2 G
        | exc c ks ds ρ2 S2 => rw [hbo] at G; exact GoodS.back (E := E) (r := .exc c ks ds ρ2 S2) R2 st2 G
        | fail => rw [hbo] at G; exact G
    · exact G.elim
  · have e : i = items.length := by omega
    subst e
    rw [List.drop_length, forD] at G
    split at G
    · rename_i hgk
      obtain ⟨_, q2, _⟩ := hJ μ S H st1 hgk
      exact .inl ⟨q2, G σ μ H (Step.refl R2) E1⟩
    · exact G.elim

/-! ### list comprehensions -/
def W0 : WX := fun _ _ _ _ => False
/-- the slots of the block's own names forgotten -/
def wipeE (ρ : Env') : List Nat → Env'
  | [] => ρ
  | v :: vs => (wipeE ρ vs).set v none
theorem EnvOk.wipe {K : PySem.W.Frag} {μ : List Addr} {H : Hp} {ρ : Env'} {σ : L2.St} (h : EnvOk K μ H ρ σ) : ∀ vs : List Nat, EnvOk K μ H (wipeE ρ vs) (L2.wipe σ vs)
  | [] => h
  | v :: vs => by
    have ih := EnvOk.wipe h vs
    unfold wipeE L2.wipe
    refine ⟨by simp [ih.len], fun j e q => ?_⟩
    rw [List.getElem?_set] at q ⊢
    split at q
    · split at q <;> cases q
    · rename_i hj
      rw [if_neg hj]
      exact ih.at_ j e q
open Classical in
noncomputable def compL (b : Bind) (mt : M Bool) (me : M D) (g : Guard) (ρ0 : Env') : List D → Store → Out (List D)
  | [], S => if gOk g S then .ok [] S else .fail
  | d :: ds, S => if gOk g S then (match b d ρ0 with
    | none => .fail
    | some ρ1 => (mt ρ1 S).bind fun k S1 => if k = true then (me ρ1 S1).bind fun e S2 => (compL b mt me g ρ0 ds (box e S2).2).bind fun es S3 => .ok ((box e S2).1 :: es) S3
        else compL b mt me g ρ0 ds S1) else .fail
/-- no exception leaves a comprehension -/
def Out.noX {α : Type} : Out α → Out α
  | .ok a S => .ok a S
  | _ => .fail
@[simp] theorem noX_ok {α : Type} {a : α} {S : Store} : (Out.ok a S).noX = .ok a S := rfl
noncomputable def mComp (vs : List Nat) (b : Bind) (mi : M (List D × Guard)) (mt : M Bool) (me : M D) : M D := fun ρ S => (mi ρ S).bind fun p S1 =>
  if p.1.length ≤ sizeLine then (compL b mt me p.2 (wipeE ρ vs) p.1 S1).noX.bind fun es S2 => .ok (.lst es) S2 else .fail
section
variable {K : PySem.W.Frag} {mg : Str → Option Value} {μ : List Addr} {H : Hp} {S : Store} {p : Addr} {xs ys : List V}
/-- a list that no cell holds is changed -/
theorem Rep.poke (R : Rel K mg μ S H) (h : H p = some (.lst xs)) (hp : p ∉ μ) {d : D} {v : V} (r : Rep K μ H d v) : Rep K μ (upd H p (.lst ys)) d v := by
  have hw : ∀ a ∈ μ ++ [p], Wr H a := fun a ha => by
    rcases List.mem_append.mp ha with z | z
    · exact R.wr a z
    · simp at z; subst z; exact .inl ⟨xs, h⟩
  have k : Keep (μ ++ [p]) H (upd H p (.lst ys)) := fun a o e hn => by
    rw [upd_ne (fun z => hn (by rw [z]; simp))]; exact e
  have r1 : Rep K (μ ++ [p]) H d v := r.mono R.wr Keep.refl
  have r2 : Rep K (μ ++ [p] ++ []) (upd H p (.lst ys)) d v := r1.mono hw k
  rw [List.append_nil] at r2
  exact r2.cut r.lo
theorem RepL.poke (R : Rel K mg μ S H) (h : H p = some (.lst xs)) (hp : p ∉ μ) {d : List D} {v : List V} (r : RepL K μ H d v) : RepL K μ (upd H p (.lst ys)) d v := by
  induction d generalizing v with
  | nil => rw [RepL.nil_iff] at r ⊢; exact r
  | cons d ds ih =>
    obtain ⟨w, ws, rfl, r1, r2⟩ := RepL.cons_iff.mp r
    exact RepL.cons (r1.poke R h hp) (ih r2)
theorem Rel.poke (R : Rel K mg μ S H) (h : H p = some (.lst xs)) (hp : p ∉ μ) : Rel K mg μ S (upd H p (.lst ys)) := by
  refine ⟨R.nd, R.len, fun n a c h1 h2 => ?_⟩
  obtain ⟨C, dx, vs, q1, q2, q3, q4⟩ := R.cell n a c h1 h2
  have hm : a ∈ μ := List.mem_of_getElem? h1
  exact ⟨C, dx, vs, q1, by rw [upd_ne (fun z => hp (by rw [← z]; exact hm))]; exact q2, q3, q4.poke R h hp⟩
end
/-- a clause's tests -/
structure EvTf (X : Cx) (W : WX) (ifs : List Expr) (m : M Bool) : Prop where
  run : ∀ (pins : List (Addr × Obj)) (s : Shared) (σ : L2.St) (H : Hp) (μ : List Addr) (S : Store) (ρ : Env'), Inv X pins σ H s → Rel X.K X.mg μ S H → EnvOk X.K μ H ρ σ → Fine X.K X.mg W μ H σ (m ρ S) →
    wpAny (model X.prog X.w) X.A (forIn ifs true fun c r => if r = true then do let ok ← isTrue c X.env (eval c X.env); pure (ForInStep.yield ok) else pure (ForInStep.yield r)) (fun b s' => ∃ S' μ' H', m ρ S = .ok b S' ∧ Inv X pins σ H' s' ∧ Step X.K X.mg μ H μ' S' H') X.xe s
theorem evtf_nil : EvTf X W [] (mEndT true) := ⟨fun pins s σ H μ S ρ I R E F => wpAny_tests_nil ⟨S, μ, H, rfl, I, Step.refl R⟩⟩
theorem evtf_one {c : Expr} {m : M Bool} (h : EvT X W c m) : EvTf X W [c] m := ⟨fun pins s σ H μ S ρ I R E F => wpAny_tests_one (h.run pins s σ H μ S ρ I R E F)⟩
theorem EvTf.pts {ifs : List Expr} {m : M Bool} (h : EvTf X W ifs m) : PTs X ifs (TMt X W m) := by
  refine ⟨fun pins s σ H Q I ⟨μ, S, ρ, R, E, F, q⟩ => thn (h.run pins s σ H μ S ρ I R E F) fun b s' ⟨S', μ', H', e, I', st⟩ => ?_⟩
  exact ⟨H', I', q b S' μ' H' e st⟩
theorem fine_ok {K : PySem.W.Frag} {mg : Str → Option Value} {W : WX} {μ : List Addr} {H : Hp} {σ : L2.St} {α : Type} {r : Out α} {a : α} {S : Store} (h : r = .ok a S) : Fine K mg W μ H σ r := by subst h; trivial
theorem noX_eq {α : Type} {r : Out α} {a : α} {S : Store} (h : r.noX = .ok a S) : r = .ok a S := by
  cases r with
  | ok b T => exact h
  | exc _ _ _ _ => cases h
  | fail => cases h
/-- the reading of a comprehension -/
theorem comp_good {K : PySem.W.Frag} {mg : Str → Option Value} {X : Cx} (hK : X.K = K) (hmg : X.mg = mg) {wi : TI} {vs : List Nat} {b : Bind} {sl : List Nat} {mt : M Bool} {me : M D} {J : It} {items : List D} {g : Guard} {ρ : Env'} {σ : L2.St} {H1 : Hp} {μ1 : List Addr} {S1 S' : Store} {es : List D} {Q : VK}
    (hsl : ∀ i ∈ sl, i ∈ vs) (R1 : Rel K mg μ1 S1 H1) (E1 : EnvOk K μ1 H1 ρ σ) (hJ : ItOk K mg J items g μ1 S1 H1) (hz : items.length ≤ sizeLine) (hr : compL b mt me g (wipeE ρ vs) items S1 = .ok es S')
    (hQ : ∀ v μ' H', Step K mg μ1 H1 μ' S' H' → ResOk K mg μ' H1 H' (.lst es) v → Q v H') :
    ∀ D, H1 D = none → ∃ Wn : Nat → Nat → Hp → Prop, (∃ m, Wn 0 m (upd H1 D (.lst []))) ∧ ∀ i m H, Wn i m H →
      (J.stop i H ∧ Q (.ref D) H) ∨ (J.go i H ∧ ∃ Nx : Hp → Prop, (∀ H', Nx H' → ∃ m', m' < m ∧ Wn (i + 1) m' H') ∧ ∀ x H', J.yld i H x H' → TGm X b sl x (L2.wipe σ vs) H' fun σ2 H2 => L2.wipe σ2 vs = L2.wipe σ vs ∧ TMt X W0 mt σ2 H2 fun k H3 =>
        if k = true then TM X W0 me σ2 H3 fun y H4 => ∃ acc, H4 D = some (.lst acc) ∧ acc.length < sizeLine ∧ Nx (upd H4 D (.lst (acc ++ [y]))) else Nx H3) := by
  subst hK
  subst hmg
  intro D hD
  refine ⟨fun i m H => m = items.length - i ∧ i ≤ items.length ∧ ∃ μ S accd accv esr, Step X.K X.mg μ1 H1 μ S H ∧ D ∉ μ ∧ H D = some (.lst accv) ∧ RepL X.K μ H accd accv ∧ accd.length ≤ i ∧ compL b mt me g (wipeE ρ vs) (items.drop i) S = .ok esr S' ∧ es = accd ++ esr,
    ⟨items.length, by simp, Nat.zero_le _, μ1, S1, [], [], es, Step.fresh R1 hD, R1.nin hD, upd_same, RepL.nil, Nat.le_refl _, by rw [List.drop_zero]; exact hr, rfl⟩, ?_⟩
  rintro i m H ⟨rfl, hi, μ, S, accd, accv, esr, st, hDm, hDl, racc, hal, hc, hes⟩
  have R := st.rel
  by_cases hlt : i < items.length
  · rw [List.drop_eq_getElem_cons hlt, compL] at hc
    split at hc
    · rename_i hgk
      obtain ⟨q1, q2, q3⟩ := hJ μ S H st hgk
      refine .inr ⟨q1 i hlt, fun H => i + 1 ≤ items.length ∧ ∃ μ S accd accv esr, Step X.K X.mg μ1 H1 μ S H ∧ D ∉ μ ∧ H D = some (.lst accv) ∧ RepL X.K μ H accd accv ∧ accd.length ≤ i + 1 ∧ compL b mt me g (wipeE ρ vs) (items.drop (i + 1)) S = .ok esr S' ∧ es = accd ++ esr,
        fun H' h => ⟨items.length - (i + 1), by omega, rfl, h⟩, fun x H2 hy => ?_⟩
      obtain ⟨hx, d, hd, r⟩ := q3 i x H2 hlt hy
      have ed : items[i] = d := by rw [List.getElem?_eq_getElem hlt] at hd; exact Option.some.inj hd
      rw [ed] at hc
      have st2 : Step X.K X.mg μ H μ S H2 := Step.ext R hx
      have R2 := st2.rel
      have hD2 := st2.nin hDl hDm
      split at hc
      · cases hc
      · rename_i ρ1 hb1
        obtain ⟨k, S3, ek, hc⟩ := bind_eq_ok hc
        have E2 : EnvOk X.K μ H2 (wipeE ρ vs) (L2.wipe σ vs) := ((E1.step R1 st).step R st2).wipe vs
        refine ⟨μ, S, wipeE ρ vs, d, ρ1, R2, E2, r, hb1, fun σ2 E' hwp => ⟨?_, ?_⟩⟩
        · rw [hwp vs hsl]
          have key : ∀ us : List Nat, (∀ i ∈ us, i ∈ vs) → L2.wipe (L2.wipe σ us) vs = L2.wipe σ vs := by
            intro us
            induction us with
            | nil => intro _; rfl
            | cons u us ih =>
              intro h
              show L2.wipe ((L2.wipe σ us).set u none) vs = L2.wipe σ vs
              rw [wipe_set (h u (by simp))]
              exact ih fun i hi => h i (by simp [hi])
          exact key vs fun _ h => h
        · refine ⟨μ, S, ρ1, R2, E', fine_ok ek, fun k' S3' μ3 H3 e3 st3 => ?_⟩
          rw [ek] at e3
          cases e3
          have R3 := st3.rel
          have hD3 := st3.nin hD2.2 hD2.1
          have st123 := (st.trans R1 st2).trans R1 st3
          have racc3 := st3.repL R2 (st2.repL R racc)
          cases k with
          | false =>
            rw [if_neg Bool.false_ne_true] at hc ⊢
            exact ⟨hlt, μ3, S3, accd, accv, esr, st123, hD3.1, hD3.2, racc3, by omega, hc, hes⟩
          | true =>
            rw [if_pos rfl] at hc ⊢
            obtain ⟨e, S4, ee, hc⟩ := bind_eq_ok hc
            obtain ⟨es2, S5, e5, hc⟩ := bind_eq_ok hc
            cases hc
            refine ⟨μ3, S3, ρ1, R3, E'.step R2 st3, fine_ok ee, fun e' S4' y μ4 H4 e4 st4 x4 => ?_⟩
            rw [ee] at e4
            cases e4
            have hD4 := st4.nin hD3.2 hD3.1
            have st1234 := st123.trans R1 st4
            have racc4 := st4.repL R3 racc3
            have x5 : ResOk X.K X.mg μ4 H1 H4 e y := x4.back R1 st123
            -- the value is new to the list, too
            obtain ⟨μ5, st5, r5, ext5, em5⟩ := st1234.box x5
            have hD5 : D ∉ μ5 := by
              unfold ResOk at x4
              have l5 := st5.rel.len
              unfold Ev.box at l5
              cases hcell : e.cell? with
              | none =>
                rw [hcell, em5] at l5
                have l0 := st4.rel.len
                rw [List.length_append] at l5
                have : ext5 = [] := List.length_eq_zero_iff.mp (by simp only at l5; omega)
                rw [em5, this, List.append_nil]
                exact hD4.1
              | some c =>
                rw [hcell] at x4
                obtain ⟨a, ea, _, _, hn⟩ := x4
                unfold Ev.box at r5
                rw [hcell] at r5
                simp only at r5
                unfold Rep at r5
                obtain ⟨a', ha', ea'⟩ := r5
                rw [ea] at ea'
                cases ea'
                rw [hcell, em5] at l5
                have l0 := st4.rel.len
                rw [List.length_append] at l5
                have hlen : ext5.length = 1 := by simp at l5; omega
                obtain ⟨z, rfl⟩ := List.length_eq_one_iff.mp hlen
                rw [em5, List.getElem?_append_right (by omega)] at ha'
                rw [show S4.length - μ4.length = 0 by omega] at ha'
                simp at ha'
                subst ha'
                intro hm
                rw [em5] at hm
                rcases List.mem_append.mp hm with q | q
                · exact hD4.1 q
                · simp at q
                  subst q
                  rw [hD3.2] at hn
                  cases hn
            have R5 := st5.rel
            have racc5 : RepL X.K μ5 H4 accd accv := by rw [em5]; exact racc4.mono st4.rel.wr Keep.refl
            have hsz : accv.length < sizeLine := by
              have := racc.length
              omega
            refine ⟨accv, hD4.2, hsz, hlt, μ5, (box e S4).2, accd ++ [(box e S4).1], accv ++ [y], es2, ?_, hD5, upd_same, (racc5.append (RepL.cons r5 RepL.nil)).poke R5 hD4.2 hD5, by simp; omega, e5, by rw [hes, List.append_assoc]; rfl⟩
            obtain ⟨ext, em, _, kp, fr⟩ := st5
            refine ⟨ext, em, R5.poke hD4.2 hD5, fun a o ha hn => ?_, fr⟩
            rw [upd_ne (ne_of_none ha hD)]
            exact kp a o ha hn
    · cases hc
  · have e : i = items.length := by omega
    subst e
    rw [List.drop_length, compL] at hc
    split at hc
    · rename_i hgk
      injection hc with hc1 hc2
      subst hc1
      subst hc2
      rw [List.append_nil] at hes
      obtain ⟨_, q2, _⟩ := hJ μ _ H st hgk
      refine .inl ⟨q2, hQ _ μ H st ?_⟩
      rw [hes]
      exact ResOk.new (c := .lst accd) rfl ⟨0, 0, accv, trivial, hDl, trivial, racc⟩ hDm hD
    · cases hc
theorem ev_comp {elt tg iter : Expr} {ifs : List Expr} {scope : Scope} {own : List (Str × Nat)} {pos : Pos} {b : Bind} {sl : List Nat} {mi : M (List D × Guard)} {mt : M Bool} {me : M D} (hc : X.calm = true) (hN : X.N.Nodup) (hi : EvI X W tg iter mi) (ok : BlkOk X.N X.env.scope scope own)
    (hg : ∀ (s : Shared) (H : Hp) (C : Addr) (cl : List (Str × Addr)) (fp : List Addr), EvG (X.blk s H scope (compEnvC scope cl C X.env) fp) tg b sl)
    (ht : ∀ (s : Shared) (H : Hp) (C : Addr) (cl : List (Str × Addr)) (fp : List Addr), EvTf (X.blk s H scope (compEnvC scope cl C X.env) fp) W0 ifs mt)
    (he : ∀ (s : Shared) (H : Hp) (C : Addr) (cl : List (Str × Addr)) (fp : List Addr), EvE (X.blk s H scope (compEnvC scope cl C X.env) fp) W0 elt me) (hs : notSet iter = true) (hsl : ∀ i ∈ sl, i ∈ own.map (fun x => x.2)) :
    EvE X W (.ListComp elt [⟨tg, iter, ifs, 0⟩] scope pos) (mComp (own.map (·.2)) b mi mt me) := by
  refine EvE.of_pe (pe_lc hc hN hi ok (g := TGm X b sl) (tt := TMt X W0 mt) (te := TM X W0 me) (fun s H C cl fp => hg s H C cl fp) (fun s H C cl fp => (ht s H C cl fp).pts) (fun s H C cl fp => (he s H C cl fp).pe) (folded_notSet hs)) fun σ H μ S ρ R E F => ?_
  unfold mComp at F ⊢
  refine ⟨μ, S, ρ, R, E, F.left, fun p S1 μ1 H1 J e st hJ => ?_⟩
  have F1 := Fine.right R st F e
  split at F1
  · rename_i hz
    have R1 := st.rel
    cases hc2 : compL b mt me p.2 (wipeE ρ (own.map (·.2))) p.1 S1 with
    | ok es S2 =>
      have key := comp_good (Q := fun v H' => ∃ d S' μ', mComp (own.map (·.2)) b mi mt me ρ S = .ok d S' ∧ Step X.K X.mg μ H μ' S' H' ∧ ResOk X.K X.mg μ' H H' d v) rfl rfl (wi := TMi X W mi) hsl R1 (E.step R st) hJ hz hc2
        fun v μ' H' st' x => ⟨.lst es, S2, μ', by unfold mComp; rw [e, bind_ok, if_pos hz, hc2]; rfl, st.trans R st', x.back R st⟩
      exact key
    | exc _ _ _ _ => rw [hc2] at F1; exact F1.elim
    | fail => rw [hc2] at F1; exact F1.elim
  · exact F1.elim
theorem evs_setComp {i : Nat} {y : Str} {py : Pos} {elt tg iter : Expr} {ifs : List Expr} {scope : Scope} {own : List (Str × Nat)} {pos spos : Pos} {b : Bind} {sl : List Nat} {mi : M (List D × Guard)} {mt : M Bool} {me : M D} (hc : X.calm = true) (hN : X.N.Nodup)
    (hy : X.N[i]? = some y) (hyl : X.env.scope.names.lookup y = some .local) (hsw : swapsWith (.ListComp elt [⟨tg, iter, ifs, 0⟩] scope pos) (some (.Name y py)) spos.line X.env = pure true) (hi : EvI X W tg iter mi) (ok : BlkOk X.N X.env.scope scope own)
    (hg : ∀ (s : Shared) (H : Hp) (C : Addr) (cl : List (Str × Addr)) (fp : List Addr), EvG (X.blk s H scope (compEnvC scope cl C X.env) fp) tg b sl)
    (ht : ∀ (s : Shared) (H : Hp) (C : Addr) (cl : List (Str × Addr)) (fp : List Addr), EvTf (X.blk s H scope (compEnvC scope cl C X.env) fp) W0 ifs mt)
    (he : ∀ (s : Shared) (H : Hp) (C : Addr) (cl : List (Str × Addr)) (fp : List Addr), EvE (X.blk s H scope (compEnvC scope cl C X.env) fp) W0 elt me) (hs : notSet iter = true) (hsl : ∀ i ∈ sl, i ∈ own.map (fun x => x.2)) :
    EvS X W (.Assign [.Name y py] (.ListComp elt [⟨tg, iter, ifs, 0⟩] scope pos) spos) (sAsg (bName i) (mComp (own.map (·.2)) b mi mt me)) := by
  refine PS.imp (ps_setLc hc hN hy hyl hsw hi ok (g := TGm X b sl) (tt := TMt X W0 mt) (te := TM X W0 me) (fun s H C cl fp => hg s H C cl fp) (fun s H C cl fp => (ht s H C cl fp).pts) (fun s H C cl fp => (he s H C cl fp).pe) (folded_notSet hs)) fun E σ H ⟨μ, S, ρ, R, En, G⟩ => ?_
  unfold sAsg at G
  have F := G.left R En
  unfold mComp at F
  refine ⟨μ, S, ρ, R, En, F.left, fun p S1 μ1 H1 J e st hJ => ?_⟩
  have F1 := Fine.right R st F e
  split at F1
  · rename_i hz
    have R1 := st.rel
    cases hc2 : compL b mt me p.2 (wipeE ρ (own.map (·.2))) p.1 S1 with
    | ok es S2 =>
      refine (comp_good (Q := fun x H1 => gName i x σ H1 E.nx) rfl rfl (wi := TMi X W mi) hsl R1 (En.step R st) hJ hz hc2 fun v μ' H' st' x => ?_ : _)
      have em : mComp (own.map (·.2)) b mi mt me ρ S = .ok (.lst es) S2 := by unfold mComp; rw [e, bind_ok, if_pos hz, hc2]; rfl
      rw [em] at G
      have st2 := st.trans R st'
      obtain ⟨μ2, S2', ρ2, d2, ρ', R', E', r', b', q'⟩ := asg_good (b := bName i) (sl := [i]) st2.rel (En.step R st2) (x.back R st) R st2 G
      cases b'
      exact q' _ (E'.set i r') fun vs h => wipe_set (h i (by simp))
    | exc _ _ _ _ => rw [hc2] at F1; exact F1.elim
    | fail => rw [hc2] at F1; exact F1.elim
  · exact F1.elim
end Ev
/-! Ev7: defs called, methods, fields, instances made, errors raised and caught. -/
namespace Ev
open PySem PySem.Spec PyProof.Rows L2
variable {X : Cx} {W : WX}

/-- as Step, where the objects at xs are handed over -/
def StepX (K : PySem.W.Frag) (mg : Str → Option Value) (xs : List Addr) (μ : List Addr) (H : Hp) (μ' : List Addr) (S' : Store) (H' : Hp) : Prop :=
  ∃ ext, μ' = μ ++ ext ∧ Rel K mg μ' S' H' ∧ (∀ a o, H a = some o → a ∉ μ → a ∉ xs → H' a = some o) ∧ ∀ a ∈ ext, H a = none ∨ a ∈ xs
def ResX (K : PySem.W.Frag) (mg : Str → Option Value) (xs : List Addr) (μ : List Addr) (H0 H : Hp) (d : D) (v : V) : Prop := match d.cell? with
  | some c => ∃ a, v = .ref a ∧ CellOk K mg μ H a c ∧ a ∉ μ ∧ (H0 a = none ∨ a ∈ xs)
  | none => Rep K μ H d v
section
variable {K : PySem.W.Frag} {mg : Str → Option Value} {xs : List Addr} {μ0 μ μ1 : List Addr} {H0 H H1 : Hp} {S0 S S1 : Store}
theorem StepX.step (R0 : Rel K mg μ0 S0 H0) (st : Step K mg μ0 H0 μ S H) (x : StepX K mg xs μ H μ1 S1 H1) (hx : ∀ a ∈ xs, H0 a = none) : Step K mg μ0 H0 μ1 S1 H1 := by
  have bk := fun {a} (h : H a = none) => st.back R0 h
  obtain ⟨e1, q1, R1, k1, f1⟩ := st
  obtain ⟨e2, q2, R2, k2, f2⟩ := x
  subst q1
  refine ⟨e1 ++ e2, by rw [q2, List.append_assoc], R2, fun a o h hm => ?_, fun a ha => ?_⟩
  · refine k2 a o (k1 a o h hm) (fun hm1 => ?_) fun hxs => ?_
    · rcases List.mem_append.mp hm1 with z | z
      · exact hm z
      · rw [f1 a z] at h; cases h
    · rw [hx a hxs] at h; cases h
  · rcases List.mem_append.mp ha with z | z
    · exact f1 a z
    · rcases f2 a z with z | z
      · exact bk z
      · exact hx a z
theorem ResX.res {d : D} {v : V} (R0 : Rel K mg μ0 S0 H0) (st : Step K mg μ0 H0 μ S H) (x : ResX K mg xs μ1 H H1 d v) (hx : ∀ a ∈ xs, H0 a = none) : ResOk K mg μ1 H0 H1 d v := by
  unfold ResX at x
  unfold ResOk
  cases hc : d.cell? with
  | none => rw [hc] at x; exact x
  | some c =>
    rw [hc] at x
    obtain ⟨a, rfl, h1, h2, h3⟩ := x
    refine ⟨a, rfl, h1, h2, ?_⟩
    rcases h3 with h3 | h3
    · exact st.back R0 h3
    · exact hx a h3
theorem ResL.any {ds : List D} {vs : List V} (r : ResL K mg μ H0 H ds vs) : ResL K mg μ (fun _ => none) H ds vs := by
  induction r with
  | nil => exact .nil
  | cons x r n ih =>
    refine .cons ?_ ih n
    unfold ResOk at x ⊢
    split at x
    · obtain ⟨a, e, h1, h2, _⟩ := x
      exact ⟨a, e, h1, h2, rfl⟩
    · exact x

/-! ### the store behind a call -/
open Classical in
noncomputable def closeD (S : Store) (d : D) (S2 : Store) : D × Store := if Clean S S2 then
    if d.lo S.length = true then (d, S2.take S.length) else match d with
      | .ref k => match S2[k]? with
        | some c => if c.lo S.length = true then (c.d, S2.take S.length) else (d, S2)
        | none => (d, S2)
      | d => (d, S2)
  else (d, S2)
theorem cell_d (c : Cell) : c.d.cell? = some c := by cases c <;> rfl
theorem CellOk.cut {a : Addr} {c : Cell} {ext : List Addr} (h : CellOk K mg (μ ++ ext) H a c) (l : c.lo μ.length = true) : CellOk K mg μ H a c := by
  obtain ⟨C, dx, vs, q1, q2, q3, q4⟩ := h
  exact ⟨C, dx, vs, q1, q2, q3, q4.cut l⟩
theorem lo_cell {d : D} {c : Cell} {n : Nat} (h : d.cell? = some c) (l : d.lo n = true) : c.lo n = true := by
  cases d <;> first | (cases h; exact l) | cases h
theorem closeD_ok {d : D} {v : V} (R : Rel K mg μ S H) (st : StepX K mg xs μ H μ1 S1 H1) (x : ResX K mg xs μ1 H H1 d v) :
    ∃ μ2, StepX K mg xs μ H μ2 (closeD S d S1).2 H1 ∧ ResX K mg xs μ2 H H1 (closeD S d S1).1 v := by
  have same : ∃ μ2, StepX K mg xs μ H μ2 S1 H1 ∧ ResX K mg xs μ2 H H1 d v := ⟨μ1, st, x⟩
  unfold closeD
  split
  · rename_i hc
    obtain ⟨ext, e1, R1, k1, f1⟩ := id st
    subst e1
    have Rc : Rel K mg μ (S1.take S.length) H1 := R.cut R1 hc
    have stc : StepX K mg xs μ H μ (S1.take S.length) H1 := ⟨[], by simp, Rc, k1, fun _ h => nomatch h⟩
    have hl := R.len
    split
    · rename_i hlo
      refine ⟨μ, stc, ?_⟩
      unfold ResX at x ⊢
      cases hcell : d.cell? with
      | none =>
        rw [hcell] at x
        exact Rep.cut x (by rw [hl]; exact hlo)
      | some c =>
        rw [hcell] at x
        obtain ⟨a, rfl, h1, h2, h3⟩ := x
        exact ⟨a, rfl, h1.cut (by rw [hl]; exact lo_cell hcell hlo), fun z => h2 (List.mem_append_left _ z), h3⟩
    · rename_i hlo
      split
      · rename_i k
        split
        · rename_i c hk
          split
          · rename_i hcl
            refine ⟨μ, stc, ?_⟩
            unfold ResX at x ⊢
            have x : Rep K (μ ++ ext) H1 (.ref k) v := x
            unfold Rep at x
            obtain ⟨a, ha, rfl⟩ := x
            rw [cell_d]
            have hkn : ¬ k < S.length := fun z => hlo (by unfold D.lo; exact decide_eq_true z)
            have hkm : μ.length ≤ k := by omega
            have hax : a ∈ ext := by
              rw [List.getElem?_append_right hkm] at ha
              exact List.mem_of_getElem? ha
            refine ⟨a, rfl, (R1.cell k a c ha hk).cut (by rw [hl]; exact hcl), fun z => ?_, f1 a hax⟩
            have := R1.nd
            rw [List.nodup_append] at this
            exact this.2.2 a z a hax rfl
          · exact same
        · exact same
      · exact same
  · exact same
open Classical in
/-- an error's fields -/
noncomputable def closeL (S : Store) (ds : List D) (S2 : Store) : Store := if Clean S S2 ∧ loL S.length ds = true then S2.take S.length else S2
theorem ExcRep.cut {c : Str} {ks : List Str} {ds : List D} {cls : Value} {dx : Option Addr} {ext : List Addr} (h : ExcRep K mg (μ ++ ext) H c ks ds cls dx) (l : loL μ.length ds = true) : ExcRep K mg μ H c ks ds cls dx := by
  obtain ⟨C, h1, h2, h3⟩ := h
  refine ⟨C, h1, h2, ?_⟩
  cases dx with
  | none => exact h3
  | some x => obtain ⟨vs, q1, q2, q3⟩ := h3; exact ⟨vs, q1, q2, q3.cut l⟩
theorem closeL_ok {c : Str} {ks : List Str} {ds : List D} {cls : Value} {dx : Option Addr} (R : Rel K mg μ S H) (st : StepX K mg xs μ H μ1 S1 H1) (x : ExcRep K mg μ1 H1 c ks ds cls dx) :
    ∃ μ2, StepX K mg xs μ H μ2 (closeL S ds S1) H1 ∧ ExcRep K mg μ2 H1 c ks ds cls dx := by
  unfold closeL
  split
  · rename_i hc
    obtain ⟨ext, e1, R1, k1, f1⟩ := st
    subst e1
    exact ⟨μ, ⟨[], by simp, R.cut R1 hc.1, k1, fun _ h => nomatch h⟩, x.cut (by rw [R.len]; exact hc.2)⟩
  · exact ⟨μ1, st, x⟩
end

/-! ### what a def promises -/
abbrev Fn := List D → Store → Out D
def spOf (K : PySem.W.Frag) (mg : Str → Option Value) (n : Nat) (f : Fn) : Sp := fun vs H Q E => ∃ μ S ds, Rel K mg μ S H ∧ ResL K mg μ (fun _ => none) H ds vs ∧ ds.length = n ∧ match f ds S with
  | .ok d S' => ∀ v μ' H', StepX K mg (newA ds vs) μ H μ' S' H' → ResX K mg (newA ds vs) μ' H H' d v → Q v H'
  | .exc c ks es S' => ∀ cls dx μ' H', StepX K mg (newA ds vs) μ H μ' S' H' → ExcRep K mg μ' H' c ks es cls dx → E cls dx H'
  | .fail => False
/-- a body as a function: the new things handed in are held by its slots -/
noncomputable def runBody (body : MS) (slots : Nat) : Fn := fun ds S => match body ((boxL ds S).1.map some ++ List.replicate (slots - ds.length) none) (boxL ds S).2 with
  | .next ρ S2 => .ok .non (closeD S .non S2).2
  | .ret d S2 => .ok (closeD S d S2).1 (closeD S d S2).2
  | .exc c ks es ρ S2 => .exc c ks es (closeL S es S2)
  | _ => .fail
section
variable {K : PySem.W.Frag} {mg : Str → Option Value}
theorem start_env {μ : List Addr} {H : Hp} {ds : List D} {vs : List V} {N : List Str} (r : RepL K μ H ds vs) : EnvOk K μ H (ds.map some ++ List.replicate (N.length - ds.length) none) (L2.start N vs) := by
  unfold L2.start
  refine ⟨by simp [r.length], fun i d h => ?_⟩
  by_cases hi : i < ds.length
  · rw [List.getElem?_append_left (by simpa using hi), List.getElem?_map] at h
    cases hd : ds[i]? with
    | none => rw [hd] at h; cases h
    | some e =>
      rw [hd] at h
      cases h
      obtain ⟨v, e1, r1⟩ := r.get hd
      exact ⟨v, by rw [List.getElem?_append_left (by rw [List.length_map, ← r.length]; exact hi), List.getElem?_map, e1]; rfl, r1⟩
  · rw [List.getElem?_append_right (by simpa using hi), List.getElem?_replicate] at h
    split at h <;> cases h
/-- the reading of a body from the promise -/
theorem body_good {X : Cx} (hK : X.K = K) (hmg : X.mg = mg) {body : MS} {N : List Str} {n : Nat} {vs : List V} {H : Hp} {Q : VK} {E : XK} (h : spOf K mg n (runBody body N.length) vs H Q E) :
    TMs X (fun cls dx _ H => E cls dx H) body { nx := fun _ H' => Q .non H', rt := Q } (L2.start N vs) H := by
  subst hK
  subst hmg
  obtain ⟨μ, S, ds, R, hl, hn, h⟩ := h
  have st0 : Step X.K X.mg [] (fun _ => none) μ S H := ⟨μ, rfl, R, (fun a o z _ => by cases z), fun _ _ => rfl⟩
  obtain ⟨ext, st1, r1, hext⟩ := Step.boxL hl st0
  have R1 := st1.rel
  have hlen : (boxL ds S).1.length = ds.length := by rw [r1.length, ← hl.length]
  have hnew := hl.new
  have hE := start_env (N := N) r1
  rw [hlen] at hE
  refine ⟨μ ++ ext, (boxL ds S).2, _, R1, hE, ?_⟩
  -- seen from the promise
  have see : ∀ {μ' : List Addr} {S' : Store} {H' : Hp}, Step X.K X.mg (μ ++ ext) H μ' S' H' → StepX X.K X.mg (newA ds vs) μ H μ' S' H' := fun {μ' S' H'} st => by
    obtain ⟨e2, q2, R2, k2, f2⟩ := st
    refine ⟨ext ++ e2, by rw [q2, List.append_assoc], R2, fun a o ha hm hx => k2 a o ha fun z => ?_, fun a ha => ?_⟩
    · rcases List.mem_append.mp z with z | z
      · exact hm z
      · exact hx (hext a z)
    · rcases List.mem_append.mp ha with z | z
      · exact .inr (hext a z)
      · exact .inl (f2 a z)
  have seeR : ∀ {μ' : List Addr} {H' : Hp} {d : D} {v : V}, ResOk X.K X.mg μ' H H' d v → ResX X.K X.mg (newA ds vs) μ' H H' d v := fun {μ' H' d v} x => by
    unfold ResOk at x
    unfold ResX
    cases hc : d.cell? with
    | some c =>
      rw [hc] at x
      obtain ⟨a, e, h1, h2, h3⟩ := x
      exact ⟨a, e, h1, h2, .inl h3⟩
    | none => rw [hc] at x; exact x
  unfold runBody at h
  cases hb : body ((boxL ds S).1.map some ++ List.replicate (N.length - ds.length) none) (boxL ds S).2 with
  | next ρ S2 =>
    rw [hb] at h
    intro σ' μ' H' st E'
    obtain ⟨μ2, s2, x2⟩ := closeD_ok R (see st) (seeR (res_non (H0 := H)))
    have hz : (closeD S .non S2).1 = .non := by unfold closeD; split <;> rfl
    rw [hz] at x2
    exact h .non μ2 H' s2 x2
  | brk ρ S2 => rw [hb] at h; exact h.elim
  | cont ρ S2 => rw [hb] at h; exact h.elim
  | fail => rw [hb] at h; exact h.elim
  | ret d S2 =>
    rw [hb] at h
    intro v μ' H' st x
    obtain ⟨μ2, s2, x2⟩ := closeD_ok R (see st) (seeR x)
    exact h v μ2 H' s2 x2
  | exc c ks es ρ S2 =>
    rw [hb] at h
    intro cls dx σ' μ' H' st E' x
    obtain ⟨μ2, s2, x2⟩ := closeL_ok R (see st) x
    exact h cls dx μ2 H' s2 x2
/-- a def keeps the promise of its body -/
theorem fn_ok {P : Program} {w : World} {base : Heap} {x qual : Str} {st : Stmt} {f : Addr} {fd : FuncData} {N ps : List Str} {k : Nat} {body : MS} (F : Fun K x qual st f fd) (Sc : FnScope N ps (defScope st))
    (hbody : ∀ (cdv : Value) (A : Around) (outer : List Env) (s : Shared) (H : Hp) (E : XK), Room k (A.deeper (envOfC qual (defScope st) s.heap.objs.size f cdv)) →
      EvSs (cxOf (L2N.CX P w) P w K mg base N qual (defScope st) f cdv A outer s H E) (fun cls dx _ H => E cls dx H) (defBody st) body) : FnOk P w K mg base (L2N.CX P w) (k + 1) f fd ps (spOf K mg ps.length (runBody body N.length)) := by
  obtain ⟨oc, od, kV, doc, pm, an, cdv, ct, osl, rfl, lk, hcd⟩ := F.ex
  refine fn_of lk hcd Sc (fun vs H Q E h => ?_) (fun A outer s H vs Q E hr h => ?_)
  · obtain ⟨μ, S, ds, _, hl, hn, _⟩ := h
    rw [← hl.length]; exact hn
  · exact ⟨_, hbody cdv A outer s H E hr, body_good rfl rfl h⟩
end

/-! ### calls -/
/-- a def that may be called: x's def keeps the promise of f -/
structure CallOk (X : Cx) (x : Str) (n : Nat) (f : Fn) : Prop where
  ex : ∃ (a : Addr) (fd : FuncData) (ps : List Str) (k : Nat), X.mg x = some (.ref a) ∧ PySem.W.keepIn X.K (.ref a) = true ∧ Binds X.K fd ps [] ∧ Room k X.A ∧ FnOk X.prog X.w X.K X.mg X.base (L2N.CX X.prog X.w) k a fd ps (spOf X.K X.mg n f)
/-- a method of a class -/
structure MethOk (X : Cx) (C : Addr) (m : Str) (n : Nat) (f : Fn) : Prop where
  cl : Cls X.K C
  ex : ∃ (a : Addr) (fd : FuncData) (ps : List Str) (k : Nat), Meth X.K C m a ∧ Binds X.K fd ps [] ∧ Room k X.A ∧ FnOk X.prog X.w X.K X.mg X.base (L2N.CX X.prog X.w) k a fd ps (spOf X.K X.mg n f)
/-- a def is run -/
theorem run_ok {pins : List (Addr × Obj)} {σ : L2.St} {H0 H : Hp} {s : Shared} {us : List Value} {vs : List V} {μ0 μ : List Addr} {S0 S : Store} {ds : List D} {n k : Nat} {f : Fn} {a : Addr} {fd : FuncData} {ps : List Str}
    (tk : L2N.Takes X W) (hb : Binds X.K fd ps []) (hr : Room k X.A) (Fk : FnOk X.prog X.w X.K X.mg X.base (L2N.CX X.prog X.w) k a fd ps (spOf X.K X.mg n f))
    (R0 : Rel X.K X.mg μ0 S0 H0) (st : Step X.K X.mg μ0 H0 μ S H) (I : Inv X pins σ H s) (rv : Vals vs us) (rl : ResL X.K X.mg μ H0 H ds vs) (hn : ds.length = n) (F : Fine X.K X.mg W μ H σ (f ds S)) (hexc : ∀ (c : Str) ks es S', f ds S = .exc c ks es S' → ∀ cls dx μ' H', Step X.K X.mg μ0 H0 μ' S' H' → ExcRep X.K X.mg μ' H' c ks es cls dx → W cls dx σ H') :
    wpAny (model X.prog X.w) X.A (call (.ref a) us) (fun u s' => ∃ d S' v μ' H', f ds S = .ok d S' ∧ Inv X pins σ H' s' ∧ RelV v u ∧ Step X.K X.mg μ0 H0 μ' S' H' ∧ ResOk X.K X.mg μ' H0 H' d v) X.xe s := by
  have hx : ∀ a ∈ newA ds vs, H0 a = none := fun a ha => (rl.new a ha).2.2
  refine thn (run_fnS (E := fun σ => WE W σ) (Q := fun v H' => ∃ d S' μ', f ds S = .ok d S' ∧ Step X.K X.mg μ0 H0 μ' S' H' ∧ ResOk X.K X.mg μ' H0 H' d v) Fk hr hb (L2N.passAt tk σ) I rv ?_) fun u s' ⟨v, H', I', r, d, S', μ', e, s2, x⟩ => ⟨d, S', v, μ', H', e, I', r, s2, x⟩
  refine ⟨μ, S, ds, st.rel, rl.any, hn, ?_⟩
  cases hf : f ds S with
  | ok d S' => exact fun v μ' H' s2 x => ⟨d, S', μ', rfl, s2.step R0 st hx, x.res R0 st hx⟩
  | exc c ks es S' => exact fun cls dx μ' H' s2 x => hexc c ks es S' hf cls dx μ' H' (s2.step R0 st hx) x
  | fail => rw [hf] at F; exact F
def noStars : List Expr → Bool
  | [] => true
  | e :: es => notStar e && noStars es
theorem noStars_any {es : List Expr} {env : Env} {pos : Pos} (h : noStars es = true) : (backTo pos (starEach es env)).any (·.1) = false := by
  induction es with
  | nil => rfl
  | cons e es ih =>
    unfold noStars at h
    rw [Bool.and_eq_true] at h
    rw [star_of h.1]
    show (false || (backTo pos (starEach es env)).any (·.1)) = false
    rw [ih h.2]; rfl
def mCall (n : Nat) (f : Fn) (m : M (List D)) : M D := fun ρ S => (m ρ S).bind fun ds S1 => if ds.length = n then f ds S1 else .fail
theorem ev_call {x : Str} {e : Expr} {es : List Expr} {p pos : Pos} {n : Nat} {f : Fn} {m : M (List D)} (tk : L2N.Takes X W) (hg : Gl X x) (hc : CallOk X x n f) (ha : EvA X W (e :: es) m) (hs : noStars (e :: es) = true) (hdb : (x == ("__debug__" : Str)) = false) :
    EvE X W (.Call (.Name x p) (e :: es) [] pos) (mCall n f m) := by
  obtain ⟨a, fd, ps, k, hm, hk, hb, hr, Fk⟩ := hc.ex
  refine ⟨fun pins s σ H μ S ρ I R E F => ?_⟩
  unfold mCall at F ⊢
  have go : ∀ (us : List Value) (s1 : Shared) ds S1 vs μ1 H1, m ρ S = .ok ds S1 → Inv X pins σ H1 s1 → Vals vs us → Step X.K X.mg μ H μ1 S1 H1 → ResL X.K X.mg μ1 H H1 ds vs →
      wpAny (model X.prog X.w) X.A (call (.ref a) us) (EvP X pins σ μ H H ((m ρ S).bind fun ds S1 => if ds.length = n then f ds S1 else .fail)) X.xe s1 := by
    intro us s1 ds S1 vs μ1 H1 e1 I1 r1 st1 x1
    have F1 := Fine.right R st1 F e1
    split at F1
    · rename_i hn
      refine thn (run_ok tk hb hr Fk R st1 I1 r1 x1 hn F1 fun c ks es S' e cls dx μ' H' s2 x => ?_) fun u s' ⟨d, S', v, μ', H', e, I', r, s2, x⟩ => ⟨d, S', v, μ', H', by rw [e1, bind_ok, if_pos hn]; exact e, I', r, s2, x⟩
      have F' := F
      rw [e1, bind_ok, if_pos hn, e] at F'
      exact F' cls dx μ' H' s2 x
    · exact F1.elim
  refine wpAny_Call_Name_kw (ld_glob I hg hm ?_ hdb)
  unfold noStars at hs
  rw [Bool.and_eq_true] at hs
  refine PySem.W.callWith_K (h₀ := X.base) I.ok.mod.kin hk (thn (ha.run pos pins s σ H μ S ρ I R E F.left) fun us s1 ⟨ds, S1, vs, μ1, H1, e1, I1, r1, st1, x1⟩ => ⟨I1.kIn, ?_⟩) (star_of hs.1) (noStars_any hs.2)
  exact go us s1 ds S1 vs μ1 H1 e1 I1 r1 st1 x1
theorem ev_call0 {x : Str} {p pos : Pos} {n : Nat} {f : Fn} (tk : L2N.Takes X W) (hg : Gl X x) (hc : CallOk X x n f) (hdb : (x == ("__debug__" : Str)) = false) :
    EvE X W (.Call (.Name x p) [] [] pos) (mCall n f mNil) := by
  obtain ⟨a, fd, ps, k, hm, hk, hb, hr, Fk⟩ := hc.ex
  refine ⟨fun pins s σ H μ S ρ I R E F => ?_⟩
  unfold mCall mNil at F ⊢
  refine wpAny_Call_Name_kw (ld_glob I hg hm ?_ hdb)
  refine PySem.W.callWith_K0 I.kIn hk ?_
  rw [bind_ok] at F ⊢
  split at F
  · rename_i hn
    rw [if_pos hn]
    refine thn (run_ok (us := []) tk hb hr Fk R (Step.refl R) I .nil .nil hn F fun c ks es S' e cls dx μ' H' s2 x => ?_) fun u s' ⟨d, S', v, μ', H', e, I', r, s2, x⟩ => ⟨d, S', v, μ', H', e, I', r, s2, x⟩
    rw [e] at F
    exact F cls dx μ' H' s2 x
  · exact F.elim

/-! ### methods -/
def notCall0 : Expr → Bool
  | .Call (.Name _ _) [] [] _ => false
  | _ => true
theorem base_of {o : Expr} (h : notCall0 o = true) {m : Str} {env : Env} (w : Sem Value) : attributeBase o m env w = w := by
  cases o with
  | Call f args kws p =>
    cases f <;> first | rfl | (cases args <;> cases kws <;> first | rfl | cases h)
  | _ => rfl
theorem noStars_all {es : List Expr} {env : Env} {pos : Pos} (h : noStars es = true) : (backTo pos (starEach es env)).all (fun x => !x.1) = true := by
  induction es with
  | nil => rfl
  | cons e es ih =>
    unfold noStars at h
    rw [Bool.and_eq_true] at h
    rw [star_of h.1]
    show (!false && (backTo pos (starEach es env)).all (fun x => !x.1)) = true
    rw [ih h.2]; rfl
theorem meth_form {o : Expr} {m : Str} {es : List Expr} {apos pos : Pos} {env : Env} (ho : notCall0 o = true) (hs : noStars es = true) (hl : es.length < 30) (hline : (apos.endLine == pos.line) = true) :
    eval (.Call (.Attribute o m apos) es [] pos) env = (do
      let ov ← eval o env
      standAt apos.atName
      let (f, first) ← holding [ov] (getMethod ov m (do return (← importBound o env).getD true))
      callWith pos f first (backTo pos (starEach es env)) (backToKw pos (keywordEach [] env))) := by
  have e1 : eval (.Call (.Attribute o m apos) es [] pos) env = (do
      let ov ← attributeBase o m env (eval o env)
      standAt apos.atName
      methodCall o m apos pos env ov (es.length + 0) (backTo pos (starEach es env)) (backToKw pos (keywordEach [] env))) := rfl
  have hf : methodCallForm (es.length + 0) (backTo pos (starEach es env)) (backToKw pos (keywordEach [] env)) = true := by
    unfold methodCallForm
    rw [noStars_all hs]
    show (true && true && decide (es.length + 0 + 0 < 30)) = true
    rw [decide_eq_true (by omega)]; rfl
  rw [e1, base_of ho]
  unfold methodCall calleeOf methodCallPos
  rw [hf, hline]
  rfl
def objOf (S : Store) : D → Option (Str × List Str × List D)
  | .obj c ks ds => some (c, ks, ds)
  | .ref n => match S[n]? with
    | some (.obj c ks ds) => some (c, ks, ds)
    | _ => none
  | _ => none
section
variable {K : PySem.W.Frag} {mg : Str → Option Value} {μ : List Addr} {H0 H : Hp} {S : Store} {d : D} {v : V} {c : Str} {ks : List Str} {ds : List D}
theorem objOf_ok (R : Rel K mg μ S H) (x : ResOk K mg μ H0 H d v) (h : objOf S d = some (c, ks, ds)) : ∃ a C dx vs, v = .ref a ∧ mg c = some (.ref C) ∧ H a = some (.ins C dx (ks.zip vs)) ∧ ks.length = ds.length ∧ RepL K μ H ds vs := by
  cases d with
  | obj c' ks' ds' =>
    cases h
    unfold ResOk at x
    obtain ⟨a, rfl, ⟨C, dx, vs, h1, h2, h3, h4⟩, _⟩ := x
    exact ⟨a, C, dx, vs, rfl, h1, h2, h3, h4⟩
  | ref n =>
    unfold objOf at h
    dsimp only at h
    split at h
    · rename_i hn
      cases h
      have x := x.rep rfl
      unfold Rep at x
      obtain ⟨a, ha, rfl⟩ := x
      obtain ⟨C, dx, vs, h1, h2, h3, h4⟩ := R.cell n a _ ha hn
      exact ⟨a, C, dx, vs, rfl, h1, h2, h3, h4⟩
    · cases h
  | _ => cases h
theorem zip_lookup {f : Str} : ∀ {ks : List Str} {vs : List V}, f ∉ ks → (ks.zip vs).lookup f = none
  | [], _, _ => rfl
  | _ :: _, [], _ => rfl
  | k :: ks, v :: vs, h => by
    rw [List.zip_cons_cons, List.lookup_cons]
    have h1 : (f == k) = false := beq_eq_false_iff_ne.mpr fun e => h (by rw [e]; exact List.mem_cons_self)
    rw [h1]
    exact zip_lookup fun z => h (List.mem_cons_of_mem _ z)
end
/-- the methods of a name, by the classes -/
abbrev MTab := Str → Option (Nat × Fn)
def mMeth (t : MTab) (m : Str) (mo : M D) (ma : M (List D)) : M D := fun ρ S => (mo ρ S).bind fun d S1 => match objOf S1 d with
  | some (c, ks, _) => if m ∈ ks then .fail else match t c with
    | some (n, f) => (ma ρ S1).bind fun ds S2 => if ds.length + 1 = n then f (d :: ds) S2 else .fail
    | none => .fail
  | none => .fail
theorem ev_meth {o : Expr} {m : Str} {es : List Expr} {apos pos : Pos} {t : MTab} {mo : M D} {ma : M (List D)} (tk : L2N.Takes X W) (ht : ∀ c n f C, t c = some (n, f) → X.mg c = some (.ref C) → MethOk X C m n f) (he : EvE X W o mo) (ha : EvA X W es ma) (ha0 : es = [] → ma = mNil)
    (ho : notCall0 o = true) (hs : noStars es = true) (hl : es.length < 30) (hline : (apos.endLine == pos.line) = true) : EvE X W (.Call (.Attribute o m apos) es [] pos) (mMeth t m mo ma) := by
  refine ⟨fun pins s σ H μ S ρ I R E F => ?_⟩
  unfold mMeth at F
  refine PySem.W.methodCall_KW (thn (he.run pins s σ H μ S ρ I R E F.left) fun u s1 ⟨d, S1, v, μ1, H1, e1, I1, r1, st1, x1⟩ => ?_) (meth_form ho hs hl hline)
  have F1 := Fine.right R st1 F e1
  have R1 := st1.rel
  split at F1
  · rename_i c ks fs hobj
    split at F1
    · exact F1.elim
    · rename_i hmk
      split at F1
      · rename_i n f htc
        obtain ⟨a, C, dx, vs0, rfl, hmg, hHa, _, _⟩ := objOf_ok R1 x1 hobj
        cases r1
        have MO := ht c n f C htc hmg
        obtain ⟨fa, fd, ps, k, hme, hb, hr, Fk⟩ := MO.ex
        refine getmeth_ok I1 hHa MO.cl hme (zip_lookup hmk) ?_
        have go : ∀ (us : List Value) (s2 : Shared) ds S2 vs μ2 H2, ma ρ S1 = .ok ds S2 → Inv X pins σ H2 s2 → Vals vs us → Step X.K X.mg μ1 H1 μ2 S2 H2 → ResL X.K X.mg μ2 H1 H2 ds vs →
            wpAny (model X.prog X.w) X.A (call (.ref fa) (.ref a :: us)) (EvP X pins σ μ H H (mMeth t m mo ma ρ S)) X.xe s2 := by
          intro us s2 ds S2 vs μ2 H2 e2 I2 r2 st2 x2
          have F2 := Fine.right R1 st2 F1 e2
          have st12 := st1.trans R st2
          split at F2
          · rename_i hn
            have rl : ResL X.K X.mg μ2 H H2 (d :: ds) (.ref a :: vs) := .cons (x1.step R1 st2) (x2.back R st1) fun c' b hc hv hb' => by
              obtain ⟨_, _, q⟩ := x2.new b hb'
              cases hv
              rw [hHa] at q
              cases q
            have em : mMeth t m mo ma ρ S = f (d :: ds) S2 := by unfold mMeth; rw [e1, bind_ok]; simp only [hobj, htc, if_neg hmk]; rw [e2, bind_ok, if_pos hn]
            refine thn (run_ok (vs := .ref a :: vs) (us := .ref a :: us) tk hb hr Fk R st12 I2 (.cons rfl r2) rl (by simpa using hn) F2 fun c ks es S' e cls dx μ' H' s3 x => ?_) fun u s' ⟨d', S', v', μ', H', e, I', r, s3, x⟩ => ⟨d', S', v', μ', H', by rw [em]; exact e, I', r, s3, x⟩
            have F' : Fine X.K X.mg W μ H σ (mMeth t m mo ma ρ S) := by unfold mMeth; exact F
            rw [em, e] at F'
            exact F' cls dx μ' H' s3 x
          · exact F2.elim
        cases es with
        | nil =>
          have := ha0 rfl
          subst this
          exact PySem.W.callWith_K0 (first := [.ref a]) I1.kIn hme.kp (go [] s1 [] S1 [] μ1 H1 rfl I1 .nil (Step.refl R1) .nil)
        | cons e es =>
          unfold noStars at hs
          rw [Bool.and_eq_true] at hs
          refine PySem.W.callWith_K (first := [.ref a]) (h₀ := X.base) I.ok.mod.kin hme.kp (thn (ha.run pos pins s1 σ H1 μ1 S1 ρ I1 R1 (E.step R st1) F1.left) fun us s2 ⟨ds, S2, vs, μ2, H2, e2, I2, r2, st2, x2⟩ => ⟨I2.kIn, ?_⟩) (star_of hs.1) (noStars_any hs.2)
          exact go us s2 ds S2 vs μ2 H2 e2 I2 r2 st2 x2
      · exact F1.elim
  · exact F1.elim

/-! ### fields -/
def lookO (f : Str) : List Str → List D → Option D
  | k :: ks, d :: ds => if f = k then some d else lookO f ks ds
  | _, _ => none
theorem lookO_ok {K : PySem.W.Frag} {μ : List Addr} {H : Hp} {f : Str} {d : D} : ∀ {ks : List Str} {ds : List D} {vs : List V}, lookO f ks ds = some d → RepL K μ H ds vs → ∃ v, (ks.zip vs).lookup f = some v ∧ Rep K μ H d v
  | [], _, _, h, _ => nomatch h
  | _ :: _, [], _, h, _ => nomatch h
  | k :: ks, e :: ds, vs, h, r => by
    obtain ⟨v, w, rfl, r1, r2⟩ := RepL.cons_iff.mp r
    unfold lookO at h
    rw [List.zip_cons_cons, List.lookup_cons]
    split at h
    · rename_i e'
      cases h
      rw [e', beq_self_eq_true]
      exact ⟨v, rfl, r1⟩
    · rename_i e'
      rw [beq_eq_false_iff_ne.mpr e']
      exact lookO_ok h r2
/-- a class whose instances' field may be read and stored -/
structure FldOk (X : Cx) (C : Addr) (f : Str) : Prop where
  cl : Cls X.K C
  no : NoAttr X.K C f
def mFld (t : Str → Bool) (f : Str) (mo : M D) : M D := fun ρ S => (mo ρ S).bind fun d S1 => match objOf S1 d with
  | some (c, ks, ds) => if t c = true then Out.of (lookO f ks ds) S1 else .fail
  | none => .fail
theorem ev_fld {o : Expr} {f : Str} {pos : Pos} {t : Str → Bool} {mo : M D} (ht : ∀ c C, t c = true → X.mg c = some (.ref C) → FldOk X C f) (he : EvE X W o mo) (ho : notCall0 o = true) : EvE X W (.Attribute o f pos) (mFld t f mo) := by
  refine EvE.of_pe (pe_fld he.pe (base_of ho _)) fun σ H μ S ρ R E F => ?_
  unfold mFld at F ⊢
  refine tm1 R E F fun d S1 v μ1 H1 e st x R1 E1 F1 => ?_
  split at F1
  · rename_i c ks ds hobj
    split at F1
    · rename_i htc
      obtain ⟨r, er⟩ := fine_of F1
      obtain ⟨a, C, dx, vs, rfl, hmg, hHa, _, l⟩ := objOf_ok R1 x hobj
      obtain ⟨w, hw, rw'⟩ := lookO_ok er l
      have fo := ht c C htc hmg
      exact ⟨a, C, dx, _, w, rfl, hHa, fo.cl, fo.no, hw, r, S1, μ1, by rw [e, bind_ok]; simp only [hobj, htc, if_pos, er]; rfl, st, ResOk.plain rw'⟩
    · exact F1.elim
  · exact F1.elim
def putO (f : Str) (d : D) : List Str → List D → List Str × List D
  | k :: ks, e :: ds => if k = f then (k :: ks, d :: ds) else (k :: (putO f d ks ds).1, e :: (putO f d ks ds).2)
  | _, _ => ([f], [d])
theorem putO_ok {K : PySem.W.Frag} {μ : List Addr} {H : Hp} {f : Str} {d : D} {v : V} (rd : Rep K μ H d v) : ∀ {ks : List Str} {ds : List D} {vs : List V}, ks.length = ds.length → RepL K μ H ds vs →
    ∃ us, putF f v (ks.zip vs) = (putO f d ks ds).1.zip us ∧ RepL K μ H (putO f d ks ds).2 us ∧ (putO f d ks ds).1.length = (putO f d ks ds).2.length
  | [], [], vs, _, r => by
    rw [RepL.nil_iff] at r; subst r
    exact ⟨[v], rfl, RepL.cons rd RepL.nil, rfl⟩
  | k :: ks, e :: ds, vs, hl, r => by
    obtain ⟨u, w, rfl, r1, r2⟩ := RepL.cons_iff.mp r
    unfold putO
    rw [List.zip_cons_cons]
    unfold putF
    by_cases h : k = f
    · rw [if_pos h, if_pos h]
      exact ⟨v :: w, rfl, RepL.cons rd r2, hl⟩
    · rw [if_neg h, if_neg h]
      obtain ⟨us, e1, e2, e3⟩ := putO_ok rd (ks := ks) (ds := ds) (by simpa using hl) r2
      exact ⟨u :: us, by rw [e1]; rfl, RepL.cons r1 e2, by simp [e3]⟩
/-- o.f = e -/
def sFldE (t : Str → Bool) (f : Str) (me mo : M D) : MS := fun ρ S => (me ρ S).s ρ fun d S1 => (mo ρ (box d S1).2).s ρ fun o S2 => match o with
  | .ref n => match S2[n]? with
    | some (.obj c ks ds) => if t c = true ∧ ks.length < 1000 then .next ρ (S2.set n (.obj c (putO f (box d S1).1 ks ds).1 (putO f (box d S1).1 ks ds).2)) else .fail
    | _ => .fail
  | _ => .fail
theorem evs_fld {o value : Expr} {f : Str} {pos pos' : Pos} {t : Str → Bool} {me mo : M D} (ht : ∀ c C, t c = true → X.mg c = some (.ref C) → FldOk X C f) (he : EvE X W value me) (ho : EvE X W o mo) (hs : notComp value = true) : EvS X W (.Assign [.Attribute o f pos'] value pos) (sFldE t f me mo) := by
  refine PS.imp (ps_fld ho.pe he.pe (swaps_of hs)) fun D σ H ⟨μ, S, ρ, R, En, G⟩ => ?_
  unfold sFldE at G
  refine tms1 R En G fun d S1 v μ1 H1 e st x R1 E1 G1 => ?_
  obtain ⟨μ1', st1, r1, ext, em⟩ := (st.box x)
  have R1' := st1.rel
  have stb : Step X.K X.mg μ1 H1 μ1' (box d S1).2 H1 → True := fun _ => trivial
  have E1' : EnvOk X.K μ1' H1 ρ σ := by rw [em]; exact E1.more R1
  -- the goodness, from the boxed state
  have Gb : GoodS X.K X.mg W D μ1' H1 ((mo ρ (box d S1).2).s ρ fun o S2 => match o with
      | .ref n => match S2[n]? with
        | some (.obj c ks ds) => if t c = true ∧ ks.length < 1000 then SOut.next ρ (S2.set n (.obj c (putO f (box d S1).1 ks ds).1 (putO f (box d S1).1 ks ds).2)) else .fail
        | _ => .fail
      | _ => .fail) := by
    have G0 : GoodS X.K X.mg W D μ H _ := G
    rw [e, s_ok] at G0
    exact GoodS.back R st1 G0
  refine tms1 R1' E1' Gb fun o' S2 w μ2 H2 e2 st2 x2 R2 E2 G2 => ?_
  split at G2
  · rename_i n
    split at G2
    · rename_i c ks ds hn
      split at G2
      · rename_i hc
        have x2' := x2.rep rfl
        unfold Rep at x2'
        obtain ⟨a, ha, rfl⟩ := x2'
        obtain ⟨C, dx, vs, h1, h2, h3, h4⟩ := R2.cell n a _ ha hn
        have rd := st2.rep R1' r1
        obtain ⟨us, q1, q2, q3⟩ := putO_ok (f := f) rd h3 h4
        have fo := ht c C hc.1 h1
        refine ⟨a, C, dx, _, rfl, h2, fo.cl, fo.no, ?_, ?_⟩
        · rw [List.length_zip]
          exact Nat.lt_of_le_of_lt (Nat.min_le_left _ _) hc.2
        · rw [q1]
          have stw := Step.write (K := X.K) (mg := X.mg) (n := n) (C := C) (dx := dx) (c := .obj c (putO f (box d S1).1 ks ds).1 (putO f (box d S1).1 ks ds).2) (vs := us) R2 ha h1 q3 q2
          exact G2 σ μ2 _ stw (E2.step R2 stw)
      · exact G2.elim
    · exact G2.elim
  · exact G2.elim

/-! ### a new instance -/
structure MakeOk (X : Cx) (x : Str) (n : Nat) (f : Fn) : Prop where
  ex : ∃ (C a : Addr) (fd : FuncData) (ps : List Str) (k : Nat), X.mg x = some (.ref C) ∧ Mk X.K C a ∧ Binds X.K fd ps [] ∧ Room (k + 1) X.A ∧ FnOk X.prog X.w X.K X.mg X.base (L2N.CX X.prog X.w) k a fd ps (spOf X.K X.mg n f)
noncomputable def mMake (x : Str) (n : Nat) (f : Fn) (ma : M (List D)) : M D := fun ρ S => (ma ρ S).bind fun ds S1 => if ds.length + 1 = n then
    (f (.ref S1.length :: ds) (S1 ++ [.obj x [] []])).bind fun d S2 => match d with
      | .non => .ok (closeD S1 (.ref S1.length) S2).1 (closeD S1 (.ref S1.length) S2).2
      | _ => .fail
  else .fail

theorem run_makeS {CX : CXT} {k : Nat} {f C : Addr} {fd : FuncData} {ps : List Str} {sp : Sp} {E : XK} {pins : List (Addr × Obj)} {σ : L2.St} {H : Hp} {s : Shared} {Q : VK} {us : List Value} {vs : List V} (M : Mk X.K C f) (F : FnOk X.prog X.w X.K X.mg X.base CX k f fd ps sp) (hr : Room (k + 1) X.A) (hb : Binds X.K fd ps [])
    (hx : PassesAt CX X σ E) (I : Inv X pins σ H s) (r : Vals vs us)
    (h : ∀ x dx, H x = none → H dx = none → dx ≠ x → sp (.ref x :: vs) (upd (upd H dx (.own x)) x (.ins C dx [])) (fun v H2 => v = .non ∧ Q (.ref x) H2) E) :
    wpAny (model X.prog X.w) X.A (call (.ref C) us) (EP X pins σ Q) X.xe s := by
  have hq := h (s.heap.objs.size + 1) s.heap.objs.size (I.hok.fresh (Nat.le_succ _)) (I.hok.fresh (Nat.le_refl _)) (Nat.ne_of_lt (Nat.lt_succ_self _))
  have I2 := Inv.made (C := C) I
  have r2 : Vals (V.ref (s.heap.objs.size + 1) :: vs) (Value.ref (s.heap.objs.size + 1) :: us) := .cons rfl r
  have hl : (Value.ref (s.heap.objs.size + 1) :: us ++ []).length = ps.length := by
    have e := r2.length
    rw [F.len _ _ _ _ hq] at e
    rw [List.append_nil]
    exact e.symm
  have b := hb _ (Value.ref (s.heap.objs.size + 1) :: us) I2.kIn hl
  rw [List.append_nil] at b
  refine wpAny_call (make_map (f := f) I.kIn M.makes M.init (beq_iff_eq.mp M.fn) (codeAny_mono (F.run _ X.stack _ _ ⟨Value.ref (s.heap.objs.size + 1) :: us, []⟩ (Value.ref (s.heap.objs.size + 1) :: us) _ _ E (hr.make C us [])
    (I2.env0.make C us []) b r2 hq) fun r s' hq' => ?_))
  cases r with
  | error e => exact hx pins _ _ e s' I2 hq'
  | ok fl =>
    cases fl with
    | ret u =>
      obtain ⟨v, H', I3, rv, ev, q3⟩ := I2.after hq'
      subst ev
      exact ⟨rv, ⟨V.ref (s.heap.objs.size + 1), H', I3, rfl, q3⟩⟩
    | next => exact False.elim hq'
    | brk => exact False.elim hq'
    | cont => exact False.elim hq'
theorem ResL.more {K : PySem.W.Frag} {mg : Str → Option Value} {μ : List Addr} {H0 H : Hp} {ds : List D} {vs : List V} {p : Addr} (hw : ∀ a ∈ μ, Wr H a) (hp : p ∉ newA ds vs) (r : ResL K mg μ H0 H ds vs) : ResL K mg (μ ++ [p]) H0 H ds vs := by
  induction r with
  | nil => exact .nil
  | cons x r n ih =>
    rename_i d ds v vs
    have hp2 : p ∉ newA ds vs := fun ha => hp (by
      unfold newA
      split
      · exact List.mem_cons_of_mem _ ha
      · exact ha)
    refine .cons ?_ (ih hp2) n
    unfold ResOk at x ⊢
    cases hc : d.cell? with
    | none => rw [hc] at x; exact x.mono hw Keep.refl
    | some c =>
      rw [hc] at x
      obtain ⟨a, rfl, h1, h2, h3⟩ := x
      refine ⟨a, rfl, h1.more hw, fun hm => ?_, h3⟩
      rcases List.mem_append.mp hm with z | z
      · exact h2 z
      · simp at z
        subst z
        exact hp (by unfold newA; rw [hc]; exact List.mem_cons_self)
theorem ResL.keep {K : PySem.W.Frag} {mg : Str → Option Value} {μ : List Addr} {H0 H H' : Hp} {S : Store} {ds : List D} {vs : List V} (R : Rel K mg μ S H) (k : Ext H H') (r : ResL K mg μ H0 H ds vs) : ResL K mg μ H0 H' ds vs :=
  r.step R (Step.ext R k)
theorem ev_make {x : Str} {es : List Expr} {p pos : Pos} {n : Nat} {f : Fn} {ma : M (List D)} (tk : L2N.Takes X W) (hg : Gl X x) (hc : MakeOk X x n f) (ha : EvA X W es ma) (ha0 : es = [] → ma = mNil) (hs : noStars es = true) (hdb : (x == ("__debug__" : Str)) = false) :
    EvE X W (.Call (.Name x p) es [] pos) (mMake x n f ma) := by
  obtain ⟨C, a, fd, ps, k, hm, hk, hb, hr, Fk⟩ := hc.ex
  refine ⟨fun pins s σ H μ S ρ I R E F => ?_⟩
  unfold mMake at F ⊢
  have go : ∀ (us : List Value) (s1 : Shared) ds S1 vs μ1 H1, ma ρ S = .ok ds S1 → Inv X pins σ H1 s1 → Vals vs us → Step X.K X.mg μ H μ1 S1 H1 → ResL X.K X.mg μ1 H H1 ds vs →
      wpAny (model X.prog X.w) X.A (call (.ref C) us) (EvP X pins σ μ H H (mMake x n f ma ρ S)) X.xe s1 := by
    intro us s1 ds S1 vs μ1 H1 e1 I1 r1 st1 x1
    have F1 := Fine.right R st1 F e1
    have R1 := st1.rel
    split at F1
    · rename_i hn
      have em : mMake x n f ma ρ S = (f (.ref S1.length :: ds) (S1 ++ [.obj x [] []])).bind fun d S2 => match d with
          | .non => .ok (closeD S1 (.ref S1.length) S2).1 (closeD S1 (.ref S1.length) S2).2
          | _ => .fail := by unfold mMake; rw [e1, bind_ok, if_pos hn]
      have hold : ∀ a ∈ newA ds vs, ∃ o, H1 a = some o := fun a ha => (x1.new a ha).1
      have hfr : ∀ a ∈ newA ds vs, H a = none := fun a ha => (x1.new a ha).2.2
      refine thn (run_makeS (E := WE W σ) (Q := fun v H' => ∃ d S' μ', mMake x n f ma ρ S = .ok d S' ∧ Step X.K X.mg μ H μ' S' H' ∧ ResOk X.K X.mg μ' H H' d v) hk Fk hr hb (L2N.passAt tk σ) I1 r1 fun q dx hq hdx hne => ?_) fun u s' ⟨v, H', I', r, d, S', μ', e, s2, x⟩ => ⟨d, S', v, μ', H', e, I', r, s2, x⟩
      -- the new instance is a cell
      have x0 : Ext H1 (upd (upd H1 dx (.own q)) q (.ins C dx [])) := fun b o hb => by
        rw [upd_ne (ne_of_none hb hq), upd_ne (ne_of_none hb hdx)]; exact hb
      have Rx := R1.ext x0
      have hq0 : q ∉ μ1 := R1.nin hq
      have R2 : Rel X.K X.mg (μ1 ++ [q]) (S1 ++ [.obj x [] []]) (upd (upd H1 dx (.own q)) q (.ins C dx [])) := Rx.more (c := .obj x [] []) ⟨C, dx, [], hm, upd_same, rfl, RepL.nil⟩ hq0
      have hqn : q ∉ newA ds vs := fun z => by
        obtain ⟨o, ho⟩ := hold q z
        rw [hq] at ho; cases ho
      have rl : ResL X.K X.mg (μ1 ++ [q]) H (upd (upd H1 dx (.own q)) q (.ins C dx [])) ds vs := (x1.keep R1 x0).more Rx.wr hqn
      have rq : Rep X.K (μ1 ++ [q]) (upd (upd H1 dx (.own q)) q (.ins C dx [])) (.ref S1.length) (.ref q) := by
        unfold Rep
        exact ⟨q, by rw [← R1.len]; simp, rfl⟩
      refine ⟨μ1 ++ [q], S1 ++ [.obj x [] []], .ref S1.length :: ds, R2, .cons (ResOk.plain rq) rl.any (fun c b hc => by cases hc), by simpa using hn, ?_⟩
      have hna : newA (.ref S1.length :: ds) (.ref q :: vs) = newA ds vs := rfl
      rw [hna]
      -- a step behind the making, seen from ahead of it
      have see : ∀ {μ' : List Addr} {S' : Store} {H' : Hp}, StepX X.K X.mg (newA ds vs) (μ1 ++ [q]) (upd (upd H1 dx (.own q)) q (.ins C dx [])) μ' S' H' → StepX X.K X.mg (newA ds vs) μ1 H1 μ' S' H' := fun {μ' S' H'} s2 => by
        obtain ⟨ext, em, R', k', f'⟩ := s2
        refine ⟨[q] ++ ext, by rw [em, List.append_assoc], R', fun b o hb hm hx => k' b o (x0 b o hb) (fun z => ?_) hx, fun b hb => ?_⟩
        · rcases List.mem_append.mp z with z | z
          · exact hm z
          · simp at z; subst z; rw [hq] at hb; cases hb
        · rcases List.mem_append.mp hb with z | z
          · simp at z; subst z; exact .inl hq
          · rcases f' b z with z' | z'
            · left
              cases q2 : H1 b with
              | none => rfl
              | some o => rw [x0 b o q2] at z'; cases z'
            · exact .inr z'
      rw [em]
      cases hf : f (.ref S1.length :: ds) (S1 ++ [.obj x [] []]) with
      | ok d S2 =>
        rw [hf] at F1
        cases d with
        | non =>
          intro v μ2 H2 s2 x2
          have hv : v = .non := by unfold ResX at x2; have x2 : Rep X.K μ2 H2 .non v := x2; unfold Rep at x2; exact x2
          refine ⟨hv, ?_⟩
          have rq2 : Rep X.K μ2 H2 (.ref S1.length) (.ref q) := by
            obtain ⟨ext, em2, _⟩ := s2
            unfold Rep
            refine ⟨q, ?_, rfl⟩
            rw [em2, List.getElem?_append_left (by rw [List.length_append]; simp [R1.len])]
            rw [← R1.len]; simp
          obtain ⟨μ3, s3, x3⟩ := closeD_ok (d := .ref S1.length) (v := .ref q) R1 (see s2) (by unfold ResX; exact rq2)
          exact ⟨_, _, μ3, rfl, s3.step R st1 hfr, x3.res R st1 hfr⟩
        | _ => exact F1.elim
      | exc c ks es S2 =>
        intro cls dx' μ2 H2 s2 x2
        have F' := F
        rw [e1, bind_ok, if_pos hn, hf] at F'
        exact F' cls dx' μ2 H2 ((see s2).step R st1 hfr) x2
      | fail => rw [hf] at F1; exact F1.elim
    · exact F1.elim
  refine wpAny_Call_Name_kw (ld_glob I hg hm ?_ hdb)
  cases es with
  | nil =>
    have := ha0 rfl
    subst this
    exact PySem.W.callWith_K0 I.kIn hk.kp (go [] s [] S [] μ H rfl I .nil (Step.refl R) .nil)
  | cons e es =>
    unfold noStars at hs
    rw [Bool.and_eq_true] at hs
    refine PySem.W.callWith_K (h₀ := X.base) I.ok.mod.kin hk.kp (thn (ha.run pos pins s σ H μ S ρ I R E F.left) fun us s1 ⟨ds, S1, vs, μ1, H1, e1, I1, r1, st1, x1⟩ => ⟨I1.kIn, ?_⟩) (star_of hs.1) (noStars_any hs.2)
    exact go us s1 ds S1 vs μ1 H1 e1 I1 r1 st1 x1
end Ev
/-! Ev8: built-ins by values. -/
namespace Ev
open PySem PySem.Spec PyProof.Rows L2
variable {X : Cx} {W : WX}

/-- a call of a known value, the store unchanged -/
def CallD (X : Cx) (fv : Value) (g : List D → Store → Option D) : Prop :=
  ∀ (pins : List (Addr × Obj)) (s : Shared) (σ : L2.St) (H : Hp) (μ : List Addr) (S : Store) (H0 : Hp) (ds : List D) (vs : List V) (us : List Value) (r : D), Inv X pins σ H s → Rel X.K X.mg μ S H → ResL X.K X.mg μ H0 H ds vs → Vals vs us → g ds S = some r →
    wpAny (model X.prog X.w) X.A (call fv us) (fun u s' => ∃ v' H', Inv X pins σ H' s' ∧ RelV v' u ∧ Step X.K X.mg μ H μ S H' ∧ ResOk X.K X.mg μ H H' r v') X.xe s
theorem intsD_map : ∀ ns : List Int, intsD (ns.map .int) = some ns
  | [] => rfl
  | n :: ns => by rw [List.map_cons]; unfold intsD; rw [intsD_map ns]
theorem intsD_is : ∀ {ds : List D} {ns : List Int}, intsD ds = some ns → ds = ns.map .int
  | [], ns, h => by cases h; rfl
  | .int i :: ds, ns, h => by
    unfold intsD at h
    split at h
    · rename_i ms hm
      cases h
      rw [List.map_cons, intsD_is hm]
    · cases h
  | .non :: ds, ns, h => by unfold intsD at h; cases h
  | .bl _ :: ds, ns, h => by unfold intsD at h; cases h
  | .str _ :: ds, ns, h => by unfold intsD at h; cases h
  | .tup _ :: ds, ns, h => by unfold intsD at h; cases h
  | .ptup _ :: ds, ns, h => by unfold intsD at h; cases h
  | .ref _ :: ds, ns, h => by unfold intsD at h; cases h
  | .fro _ :: ds, ns, h => by unfold intsD at h; cases h
  | .lst _ :: ds, ns, h => by unfold intsD at h; cases h
  | .obj _ _ _ :: ds, ns, h => by unfold intsD at h; cases h
  | .dk _ _ :: ds, ns, h => by unfold intsD at h; cases h
  | .dt _ _ :: ds, ns, h => by unfold intsD at h; cases h
  | .exn _ _ _ _ :: ds, ns, h => by unfold intsD at h; cases h
theorem CallD.of {fv : Value} {r : List V → Hp → VK → Prop} {g : List D → Store → Option D} (ho : CallR X fv r)
    (q : ∀ (H : Hp) (μ : List Addr) (S : Store) (H0 : Hp) (ds : List D) (vs : List V) (res : D), Rel X.K X.mg μ S H → ResL X.K X.mg μ H0 H ds vs → g ds S = some res →
      r vs H fun v' H' => Step X.K X.mg μ H μ S H' ∧ ResOk X.K X.mg μ H H' res v') : CallD X fv g := by
  intro pins s σ H μ S H0 ds vs us res I R x rv eg
  exact thn (ho pins s σ H vs us _ I rv (q H μ S H0 ds vs res R x eg)) fun u s' ⟨v', H', I', r', st, x⟩ => ⟨v', H', I', r', st, x⟩
def mBlt (g : List D → Store → Option D) (ma : M (List D)) : M D := fun ρ S => (ma ρ S).bind fun ds S1 => Out.of (g ds S1) S1
theorem ev_blt {x : Str} {e : Expr} {es : List Expr} {p pos : Pos} {fv : Value} {g : List D → Store → Option D} {ma : M (List D)} (hg : Gl X x) (hm : X.mg x = none) (hv : bootBuiltins x = some fv) (hf : (∃ id, fv = .builtin id) ∨ ∃ T, fv = .type T) (hc : CallD X fv g) (ha : EvA X W (e :: es) ma)
    (hs : noStars (e :: es) = true) (hn : x ≠ "__name__") (hdb : (x == ("__debug__" : Str)) = false) : EvE X W (.Call (.Name x p) (e :: es) [] pos) (mBlt g ma) := by
  refine ⟨fun pins s σ H μ S ρ I R E F => ?_⟩
  unfold mBlt at F
  unfold noStars at hs
  rw [Bool.and_eq_true] at hs
  have go := thn (ha.run pos pins s σ H μ S ρ I R E F.left) (Q' := fun us s1 => wpAny (model X.prog X.w) X.A (call fv us) (EvP X pins σ μ H H (mBlt g ma ρ S)) X.xe s1) fun us s1 ⟨ds, S1, vs, μ1, H1, e1, I1, r1, st1, x1⟩ => by
    have F1 := Fine.right (f := fun ds S1 => Out.of (g ds S1) S1) R st1 F e1
    obtain ⟨r, er⟩ := fine_of F1
    refine thn (hc pins s1 σ H1 μ1 S1 H ds vs us r I1 st1.rel x1 r1 er) fun u s' ⟨v', H', I', r', st', x'⟩ => ?_
    exact ⟨r, S1, v', μ1, H', by unfold mBlt; rw [e1, bind_ok, er]; rfl, I', r', st1.trans R st', x'.back R st1⟩
  rcases hf with ⟨id, rfl⟩ | ⟨T, rfl⟩
  · exact wpAny_Call_Name_kw (ld_blt I hg hm hv (PyProof.Rows.callWith_builtin1 go (star_of hs.1) (noStars_any hs.2)) hn hdb)
  · exact wpAny_Call_Name_kw (ld_blt I hg hm hv (PyProof.Rows.callWith_type1 go (star_of hs.1) (noStars_any hs.2)) hn hdb)

/-! ### the built-ins -/
def intsL (S : Store) (d : D) : Option (List Int) := match seqL S d with
  | some ds => intsD ds
  | none => none
def boolsD : List D → Option (List Bool)
  | [] => some []
  | .bl b :: ds => match boolsD ds with
    | some bs => some (b :: bs)
    | none => none
  | _ :: _ => none
def boolsL (S : Store) (d : D) : Option (List Bool) := match seqL S d with
  | some ds => boolsD ds
  | none => none
def sortI (ns : List Int) : List Int := ns.mergeSort fun a b => decide (a ≤ b)
def maxI : List Int → Option Int
  | [] => none
  | n :: ns => some (ns.foldl max n)
def minI : List Int → Option Int
  | [] => none
  | n :: ns => some (ns.foldl min n)
inductive Blt where
  | len | list | tuple | sorted | all | any | sum | max | min | abs | int | str | bool | divmod
  deriving DecidableEq
def Blt.nm : Blt → Str
  | .len => "len" | .list => "list" | .tuple => "tuple" | .sorted => "sorted" | .all => "all" | .any => "any" | .sum => "sum" | .max => "max" | .min => "min" | .abs => "abs" | .int => "int" | .str => "str" | .bool => "bool" | .divmod => "divmod"
def Blt.val : Blt → Value
  | .len => .builtin "len" | .list => .type "list" | .tuple => .type "tuple" | .sorted => .builtin "sorted" | .all => .builtin "all" | .any => .builtin "any" | .sum => .builtin "sum" | .max => .builtin "max" | .min => .builtin "min" | .abs => .builtin "abs"
  | .int => .type "int" | .str => .type "str" | .bool => .type "bool" | .divmod => .builtin "divmod"
def one (f : D → Store → Option D) : List D → Store → Option D := fun ds S => match ds with
  | [d] => f d S
  | _ => none
def lenD (d : D) (S : Store) : Option D := match d with
  | .str x => if x.length ≤ sizeLine then some (.int x.length) else none
  | d => match seqA S d with
    | some ds => some (.int ds.length)
    | none => none
def listD (d : D) (S : Store) : Option D := match seqA S d with
  | some ds => some (.lst ds)
  | none => none
def tupleD (d : D) (S : Store) : Option D := match seqA S d with
  | some ds => some (.tup ds)
  | none => none
def tupI (ns : List Int) : D := .tup (ns.map .int)
def tupsD : List D → Option (List (List Int))
  | [] => some []
  | .tup ds :: r => match intsD ds with
    | some (n :: ns) => match tupsD r with
      | some q => some ((n :: ns) :: q)
      | none => none
    | _ => none
  | _ :: _ => none
def sortL (nss : List (List Int)) : List (List Int) := nss.mergeSort fun a b => !HT.lexLt b a
def sortedD (d : D) (S : Store) : Option D := match d with
  | .tup ds => match intsD ds with
    | some ns => some (.lst ((sortI ns).map .int))
    | none => none
  | d => match intsL S d with
    | some ns => some (.lst ((sortI ns).map .int))
    | none => match seqL S d with
      | some ds => match tupsD ds with
        | some nss => some (.lst ((sortL nss).map tupI))
        | none => none
      | none => none
def allD (d : D) (S : Store) : Option D := match boolsL S d with
  | some bs => some (.bl (bs.all id))
  | none => none
def anyD (d : D) (S : Store) : Option D := match boolsL S d with
  | some bs => some (.bl (bs.any id))
  | none => none
def sumD (d : D) (S : Store) : Option D := match intsL S d with
  | some ns => some (.int ns.sum)
  | none => none
def maxD (ds : List D) (S : Store) : Option D := match ds with
  | [d] => match intsL S d with
    | some ns => match maxI ns with
      | some k => some (.int k)
      | none => none
    | none => none
  | [.int i, .int j] => some (.int (if j > i then j else i))
  | _ => none
def minD (ds : List D) (S : Store) : Option D := match ds with
  | [d] => match intsL S d with
    | some ns => match minI ns with
      | some k => some (.int k)
      | none => none
    | none => none
  | [.int i, .int j] => some (.int (if j < i then j else i))
  | _ => none
def absD (d : D) (_ : Store) : Option D := match d with
  | .int i => some (.int (if i < 0 then -i else i))
  | _ => none
def intD (d : D) (_ : Store) : Option D := match d with
  | .int i => some (.int i)
  | .bl b => some (.int (if b then 1 else 0))
  | _ => none
def boolD (d : D) (_ : Store) : Option D := match d with
  | .int i => some (.bl (i != 0))
  | .bl b => some (.bl b)
  | _ => none
def strD (d : D) (_ : Store) : Option D := match d with
  | .int i => if i.natAbs.log2 < 1920 then some (.str (toString i)) else none
  | _ => none
open Classical in
noncomputable def divmodD (ds : List D) (_ : Store) : Option D := match ds with
  | [.int i, .int j] => if InDm j then some (.tup [.int (i / j), .int (i % j)]) else none
  | _ => none
noncomputable def bltD : Blt → List D → Store → Option D
  | .len => one lenD
  | .list => one listD
  | .tuple => one tupleD
  | .sorted => one sortedD
  | .all => one allD
  | .any => one anyD
  | .sum => one sumD
  | .max => maxD
  | .min => minD
  | .abs => one absD
  | .int => one intD
  | .str => one strD
  | .bool => one boolD
  | .divmod => divmodD
theorem resL_one {K : PySem.W.Frag} {mg : Str → Option Value} {μ : List Addr} {H0 H : Hp} {d : D} {vs : List V} (x : ResL K mg μ H0 H [d] vs) : ∃ v, vs = [v] ∧ ResOk K mg μ H0 H d v := by
  cases x with
  | cons x r _ => cases r; exact ⟨_, rfl, x⟩
theorem resL_two {K : PySem.W.Frag} {mg : Str → Option Value} {μ : List Addr} {H0 H : Hp} {d e : D} {vs : List V} (x : ResL K mg μ H0 H [d, e] vs) : ∃ v w, vs = [v, w] ∧ ResOk K mg μ H0 H d v ∧ ResOk K mg μ H0 H e w := by
  cases x with
  | cons x r _ => obtain ⟨w, rfl, y⟩ := resL_one r; exact ⟨_, w, rfl, x, y⟩
theorem intsL_ok {K : PySem.W.Frag} {mg : Str → Option Value} {μ : List Addr} {H0 H : Hp} {S : Store} {d : D} {v : V} {ns : List Int} (R : Rel K mg μ S H) (x : ResOk K mg μ H0 H d v) (h : intsL S d = some ns) : ∃ a, v = .ref a ∧ SqL K H a (ns.map V.int) := by
  unfold intsL at h
  split at h
  · rename_i ds hd
    obtain ⟨a, vs, rfl, q, l⟩ := seqL_ok R x hd
    rw [intsD_ok h l] at q
    exact ⟨a, rfl, q⟩
  · cases h
theorem boolsD_ok {K : PySem.W.Frag} {μ : List Addr} {H : Hp} : ∀ {ds : List D} {ns : List Bool} {vs : List V}, boolsD ds = some ns → RepL K μ H ds vs → vs = ns.map V.bl := by
  intro ds
  induction ds with
  | nil => intro ns vs h r; cases h; rw [RepL.nil_iff] at r; subst r; rfl
  | cons d ds ih =>
    intro ns vs h r
    obtain ⟨v, w, rfl, r1, r2⟩ := RepL.cons_iff.mp r
    cases d with
    | bl i =>
      unfold boolsD at h
      split at h
      · rename_i ms hm
        cases h
        unfold Rep at r1
        rw [r1, ih hm r2]; rfl
      · cases h
    | _ => cases h
theorem boolsL_ok {K : PySem.W.Frag} {mg : Str → Option Value} {μ : List Addr} {H0 H : Hp} {S : Store} {d : D} {v : V} {ns : List Bool} (R : Rel K mg μ S H) (x : ResOk K mg μ H0 H d v) (h : boolsL S d = some ns) : ∃ a, v = .ref a ∧ SqL K H a (ns.map V.bl) := by
  unfold boolsL at h
  split at h
  · rename_i ds hd
    obtain ⟨a, vs, rfl, q, l⟩ := seqL_ok R x hd
    rw [boolsD_ok h l] at q
    exact ⟨a, rfl, q⟩
  · cases h
theorem rep_ints {K : PySem.W.Frag} {μ : List Addr} {H : Hp} : ∀ ns : List Int, RepL K μ H (ns.map D.int) (ns.map V.int)
  | [] => RepL.nil
  | n :: ns => RepL.cons (by unfold Rep; rfl) (rep_ints ns)
theorem sorted_one {ns ms : List Int} (h1 : ns.Pairwise (· ≤ ·)) (h2 : ms.Pairwise (· ≤ ·)) (p : ns.Perm ms) : ns = ms := p.eq_of_pairwise (le := (· ≤ ·)) (fun a b _ _ h h' => Int.le_antisymm h h') h1 h2
theorem sortI_pairwise (ns : List Int) : (sortI ns).Pairwise (· ≤ ·) := by
  have := List.pairwise_mergeSort (le := fun a b => decide (a ≤ b)) (fun a b c h1 h2 => decide_eq_true (Int.le_trans (of_decide_eq_true h1) (of_decide_eq_true h2))) (fun a b => by
    rw [Bool.or_eq_true, decide_eq_true_eq, decide_eq_true_eq]; exact Int.le_total a b) ns
  exact this.imp fun h => of_decide_eq_true h
theorem sortI_perm (ns : List Int) : (sortI ns).Perm ns := List.mergeSort_perm ns _
theorem maxI_is : ∀ {ns : List Int} {m k : Int}, maxI ns = some k → m ∈ ns → (∀ y ∈ ns, y ≤ m) → m = k := by
  have key : ∀ (ns : List Int) (a : Int), (a ≤ ns.foldl max a) ∧ (∀ y ∈ ns, y ≤ ns.foldl max a) ∧ (ns.foldl max a = a ∨ ns.foldl max a ∈ ns) := by
    intro ns
    induction ns with
    | nil => intro a; exact ⟨Int.le_refl _, (fun _ h => by cases h), Or.inl rfl⟩
    | cons n ns ih =>
      intro a
      obtain ⟨h1, h2, h3⟩ := ih (max a n)
      rw [List.foldl_cons]
      refine ⟨by omega, fun y hy => ?_, ?_⟩
      · rcases List.mem_cons.mp hy with rfl | hy
        · omega
        · exact h2 y hy
      · rcases h3 with h3 | h3
        · rw [h3]
          by_cases q : a ≤ n
          · right; rw [Int.max_eq_right q]; exact List.mem_cons_self
          · left; exact Int.max_eq_left (by omega)
        · exact .inr (List.mem_cons_of_mem _ h3)
  intro ns m k h hm hle
  cases ns with
  | nil => cases hm
  | cons n ns =>
    unfold maxI at h
    cases h
    obtain ⟨h1, h2, h3⟩ := key ns n
    have a1 : m ≤ ns.foldl max n := by
      rcases List.mem_cons.mp hm with rfl | hm
      · exact h1
      · exact h2 m hm
    have a2 : ns.foldl max n ≤ m := by
      rcases h3 with h3 | h3
      · rw [h3]; exact hle n List.mem_cons_self
      · exact hle _ (List.mem_cons_of_mem _ h3)
    omega
theorem minI_is : ∀ {ns : List Int} {m k : Int}, minI ns = some k → m ∈ ns → (∀ y ∈ ns, m ≤ y) → m = k := by
  have key : ∀ (ns : List Int) (a : Int), (ns.foldl min a ≤ a) ∧ (∀ y ∈ ns, ns.foldl min a ≤ y) ∧ (ns.foldl min a = a ∨ ns.foldl min a ∈ ns) := by
    intro ns
    induction ns with
    | nil => intro a; exact ⟨Int.le_refl _, (fun _ h => by cases h), Or.inl rfl⟩
    | cons n ns ih =>
      intro a
      obtain ⟨h1, h2, h3⟩ := ih (min a n)
      rw [List.foldl_cons]
      refine ⟨by omega, fun y hy => ?_, ?_⟩
      · rcases List.mem_cons.mp hy with rfl | hy
        · omega
        · exact h2 y hy
      · rcases h3 with h3 | h3
        · rw [h3]
          by_cases q : n ≤ a
          · right; rw [Int.min_eq_right q]; exact List.mem_cons_self
          · left; exact Int.min_eq_left (by omega)
        · exact .inr (List.mem_cons_of_mem _ h3)
  intro ns m k h hm hle
  cases ns with
  | nil => cases hm
  | cons n ns =>
    unfold minI at h
    cases h
    obtain ⟨h1, h2, h3⟩ := key ns n
    have a1 : ns.foldl min n ≤ m := by
      rcases List.mem_cons.mp hm with rfl | hm
      · exact h1
      · exact h2 m hm
    have a2 : m ≤ ns.foldl min n := by
      rcases h3 with h3 | h3
      · rw [h3]; exact hle n List.mem_cons_self
      · exact hle _ (List.mem_cons_of_mem _ h3)
    omega
theorem CallD.one {fv : Value} {r : List V → Hp → VK → Prop} {f : D → Store → Option D} (ho : CallR X fv r)
    (q : ∀ (H : Hp) (μ : List Addr) (S : Store) (H0 : Hp) (d : D) (v : V) (res : D), Rel X.K X.mg μ S H → ResOk X.K X.mg μ H0 H d v → f d S = some res →
      r [v] H fun v' H' => Step X.K X.mg μ H μ S H' ∧ ResOk X.K X.mg μ H H' res v') : CallD X fv (one f) := by
  refine CallD.of ho fun H μ S H0 ds vs res R x eg => ?_
  unfold Ev.one at eg
  split at eg
  · obtain ⟨v, rfl, y⟩ := resL_one x
    exact q H μ S H0 _ v res R y eg
  · cases eg
theorem blt_len : CallD X (.builtin "len") (one lenD) := by
  refine CallD.one (call_len_seq.or call_len_str) fun H μ S H0 d v res R y eg => ?_
  unfold lenD at eg
  split at eg
  · split at eg
    · cases eg
      exact .inr ⟨_, by rw [rep_str y], by assumption, Step.refl R, res_int⟩
    · cases eg
  · split at eg
    · rename_i es h
      cases eg
      obtain ⟨a, ws, rfl, q, l⟩ := seqA_ok R y h
      exact .inl ⟨a, ws, rfl, q, Step.refl R, by rw [← l.length]; exact res_int⟩
    · cases eg
theorem blt_list : CallD X (.type "list") (one listD) := by
  refine CallD.one call_list_of fun H μ S H0 d v res R y eg => ?_
  unfold listD at eg
  split at eg
  · rename_i es h
    cases eg
    obtain ⟨a, ws, rfl, q, l⟩ := seqA_ok R y h
    exact ⟨a, ws, rfl, q, fun p hp => ⟨Step.fresh R hp, new_lst R hp l⟩⟩
  · cases eg
theorem blt_tuple : CallD X (.type "tuple") (one tupleD) := by
  refine CallD.one call_tuple_of fun H μ S H0 d v res R y eg => ?_
  unfold tupleD at eg
  split at eg
  · rename_i es h
    cases eg
    obtain ⟨a, ws, rfl, q, l⟩ := seqA_ok R y h
    rcases q with q | q
    · exact ⟨a, ws, rfl, .inl ⟨q, fun p hp => ⟨Step.fresh R hp, new_tup R hp l⟩⟩⟩
    · exact ⟨a, ws, rfl, .inr ⟨q, Step.refl R, ResOk.plain (by unfold Rep; exact ⟨a, ws, rfl, q, l⟩)⟩⟩
  · cases eg
/-! ### sorted, of a tuple of ints -/
def rSortedTu (K : PySem.W.Frag) : List V → Hp → VK → Prop := fun vs H Q => ∃ (a : Addr) (ns : List Int), vs = [V.ref a] ∧ SqT K H a (ns.map V.int) ∧
  ∀ (ns' : List Int) (p : Addr), ns'.Perm ns → ns'.Pairwise (· ≤ ·) → H p = none → Q (.ref p) (upd H p (.lst (ns'.map V.int)))
theorem cr_sortedTu : CallR X (.builtin "sorted") (rSortedTu X.K) := by
  intro pins s σ H vs us Q I r h
  obtain ⟨a, ns, rfl, hs, q⟩ := h
  obtain ⟨its, rv, hl, hz⟩ := I.tuple hs
  rw [Vals.ref1 r]
  have hi := rv.ints
  have hzi : its.length ≤ sizeLine := by rw [← rv.length]; exact hz
  obtain ⟨o, ho, hc, n, hd⟩ := id hl
  refine Calls.call_function_entry kind_sorted plain_sorted entry_sorted (args_sorted1 _) ?_
  unfold Builtin.«sorted»
  refine wpAny_bind (m := checkCount "sorted" 1 1 _) (wpAny_pure ?_)
  refine wpAny_bind (wpAny_collect_seq a (.inr rfl) ho hc hd (fun h1 hk => ?_) (by simpa using hzi))
  have e0 : its.toArray.toList = its := by simp
  rw [e0]
  refine wpAny_bind (wpAny_newList ?_ hzi)
  have I1 : Inv X pins σ H { s with heap := h1 } := I.kept (t' := s.toks) hk
  have hoL : (h1.push (seqObj "list" its.toArray 0)).get? h1.objs.size = some (seqObj "list" its.toArray 0) := Heap.get?_push_size _ rfl
  show wpAny _ _ _ _ _ { s with heap := h1.push (seqObj "list" its.toArray 0) }
  refine wpAny_bind (wpAny_holding (wpAny_call_entry slot_list_sort ⟨_, hoL, rfl⟩ entry_list_sort (SrtO.list_sort_ord SrtO.swo_int hoL hzi (fun h2 => SrtO.ints_sortable hi h2) fun out hs1 hs2 => ⟨_, rfl, ?_⟩) (args_list_sort _)))
  obtain ⟨k1, k2, k3⟩ := SrtO.ints_out hi hs1 hs2
  obtain ⟨ep, he'⟩ := PyProof.Rows.sortedHeap_at (out := out.toArray) hoL
  have hlen : ((out.map SrtO.iv).map V.int).length ≤ sizeLine := by
    rw [List.length_map, k2.length_eq]
    rw [List.length_map] at hz
    exact hz
  have keep : ∀ b o, h1.get? b = some o → (sortedHeap (h1.push (seqObj "list" its.toArray 0)) h1.objs.size its out.toArray).get? b = some o := fun b o e => by
    have hlt : b < h1.objs.size := Heap.lt_size e
    rw [PyProof.Rows.sortedHeap_old (Nat.ne_of_lt hlt) (by rw [size_push']; exact Nat.lt_succ_of_lt hlt)]
    exact Heap.get?_push_of_some _ e
  exact wpAny_pure ⟨_, rfl, .ref h1.objs.size, upd H h1.objs.size (.lst ((out.map SrtO.iv).map V.int)), I1.laid (t' := s.toks) keep (Nat.le_refl _) ⟨hlen, out, ep, vals_of_ints k1, he'⟩, rfl, q _ _ k2 k3 (I1.hok.fresh (Nat.le_refl _))⟩
theorem sortL_perm (nss : List (List Int)) : (sortL nss).Perm nss := List.mergeSort_perm nss _
theorem sortL_pairwise (nss : List (List Int)) : (sortL nss).Pairwise fun a b => HT.lexLt b a = false := by
  have := List.pairwise_mergeSort (le := fun a b => !HT.lexLt b a) (fun a b c h1 h2 => by
    simp only [Bool.not_eq_true'] at h1 h2 ⊢
    exact lex_tr h1 h2) (fun a b => by
    cases h : HT.lexLt b a with
    | false => simp
    | true => rw [lex_asym h]; simp) nss
  exact this.imp fun h => by simpa using h
theorem lsorted_one {ns ms : List (List Int)} (h1 : ns.Pairwise fun a b => HT.lexLt b a = false) (h2 : ms.Pairwise fun a b => HT.lexLt b a = false) (p : ns.Perm ms) : ns = ms :=
  p.eq_of_pairwise (le := fun a b => HT.lexLt b a = false) (fun a b _ _ h h' => lex_tot h' h) h1 h2
theorem tupsD_ok : ∀ {ds : List D} {nss : List (List Int)}, tupsD ds = some nss → ds = nss.map tupI ∧ ∀ ns ∈ nss, ns ≠ []
  | [], nss, h => by cases h; exact ⟨rfl, fun _ h => nomatch h⟩
  | d :: ds, nss, h => by
    unfold tupsD at h
    split at h
    · rename_i hh; exact absurd hh (List.cons_ne_nil _ _)
    · rename_i es r hh
      obtain ⟨rfl, rfl⟩ := List.cons.inj hh
      split at h
      · rename_i n ns hi
        split at h
        · rename_i q hq
          cases h
          obtain ⟨e, hn⟩ := tupsD_ok hq
          refine ⟨?_, fun x hx => ?_⟩
          · rw [List.map_cons, ← e]
            unfold tupI
            rw [intsD_is hi]
          · rcases List.mem_cons.mp hx with rfl | hx
            · exact List.cons_ne_nil _ _
            · exact hn x hx
        · cases h
      · cases h
    · cases h
section
variable {K : PySem.W.Frag} {μ : List Addr} {H : Hp}
theorem tupAt_of {ns : List Int} {v : V} (r : Rep K μ H (tupI ns) v) : TupAt K H v ns := by
  unfold tupI Rep at r
  obtain ⟨t, vs, e, q, l⟩ := r
  have := intsD_ok (ns := ns) (ds := ns.map .int) (intsD_map ns) l
  subst this
  exact ⟨t, e, q⟩
theorem tups_at : ∀ {nss : List (List Int)} {vs : List V}, RepL K μ H (nss.map tupI) vs → (∀ ns ∈ nss, ns ≠ []) → ∀ x ∈ vs, ∃ ns, TupAt K H x ns ∧ ns ≠ []
  | [], vs, r, _, x, hx => by rw [List.map_nil, RepL.nil_iff] at r; subst r; cases hx
  | ns :: nss, vs, r, hne, x, hx => by
    rw [List.map_cons] at r
    obtain ⟨v, w, rfl, r1, r2⟩ := RepL.cons_iff.mp r
    rcases List.mem_cons.mp hx with rfl | hx
    · exact ⟨ns, tupAt_of r1, hne ns (by simp)⟩
    · exact tups_at r2 (fun y hy => hne y (List.mem_cons_of_mem _ hy)) x hx
theorem tups_perm {vs ys : List V} (p : ys.Perm vs) : ∀ nss : List (List Int), RepL K μ H (nss.map tupI) vs → ∃ nss' : List (List Int), nss'.Perm nss ∧ RepL K μ H (nss'.map tupI) ys := by
  induction p with
  | nil => intro nss r; exact ⟨nss, List.Perm.refl _, r⟩
  | cons x p ih =>
    intro nss r
    cases nss with
    | nil => rw [List.map_nil, RepL.nil_iff] at r; cases r
    | cons n nss =>
      rw [List.map_cons] at r
      obtain ⟨v, w, e, r1, r2⟩ := RepL.cons_iff.mp r
      obtain ⟨rfl, rfl⟩ := List.cons.inj e
      obtain ⟨nss', h1, h2⟩ := ih nss r2
      exact ⟨n :: nss', h1.cons n, RepL.cons r1 h2⟩
  | swap x y l =>
    intro nss r
    match nss, r with
    | [], r => rw [List.map_nil, RepL.nil_iff] at r; cases r
    | [n], r =>
      rw [List.map_cons, List.map_nil] at r
      obtain ⟨v, w, e, r1, r2⟩ := RepL.cons_iff.mp r
      rw [RepL.nil_iff] at r2
      subst r2
      cases e
    | n :: m :: nss, r =>
      rw [List.map_cons, List.map_cons] at r
      obtain ⟨v, w, e, r1, r2⟩ := RepL.cons_iff.mp r
      obtain ⟨rfl, rfl⟩ := List.cons.inj e
      obtain ⟨v2, w2, e2, r3, r4⟩ := RepL.cons_iff.mp r2
      obtain ⟨rfl, rfl⟩ := List.cons.inj e2
      exact ⟨m :: n :: nss, List.Perm.swap _ _ _, RepL.cons r3 (RepL.cons r1 r4)⟩
  | trans p q ih1 ih2 =>
    intro nss r
    obtain ⟨n1, h1, h2⟩ := ih2 nss r
    obtain ⟨n2, h3, h4⟩ := ih1 n1 h2
    exact ⟨n2, h3.trans h1, h4⟩
theorem tups_sorted : ∀ {nss : List (List Int)} {ys : List V}, RepL K μ H (nss.map tupI) ys → ys.Pairwise (fun x y => ∀ n m, TupAt K H x n → TupAt K H y m → HT.lexLt m n = false) → nss.Pairwise fun a b => HT.lexLt b a = false
  | [], _, _, _ => List.Pairwise.nil
  | n :: nss, ys, r, h => by
    rw [List.map_cons] at r
    obtain ⟨v, w, rfl, r1, r2⟩ := RepL.cons_iff.mp r
    obtain ⟨h1, h2⟩ := List.pairwise_cons.mp h
    refine List.pairwise_cons.mpr ⟨fun m hm => ?_, tups_sorted r2 h2⟩
    obtain ⟨i, hi, e⟩ := List.mem_iff_getElem.mp hm
    obtain ⟨u, hu, ru⟩ := r2.get (i := i) (d := tupI m) (by rw [List.getElem?_map, List.getElem?_eq_getElem hi, e]; rfl)
    exact h1 u (List.mem_of_getElem? hu) n m (tupAt_of r1) (tupAt_of ru)
end
theorem blt_sorted : CallD X (.builtin "sorted") (one sortedD) := by
  have fin : ∀ (H : Hp) (μ : List Addr) (S : Store) (ns ns' : List Int) (p : Addr), Rel X.K X.mg μ S H → ns'.Perm ns → ns'.Pairwise (· ≤ ·) → H p = none →
      Step X.K X.mg μ H μ S (upd H p (.lst (ns'.map V.int))) ∧ ResOk X.K X.mg μ H (upd H p (.lst (ns'.map V.int))) (.lst ((sortI ns).map .int)) (.ref p) := by
    intro H μ S ns ns' p R hp hs hn
    have e : ns' = sortI ns := sorted_one hs (sortI_pairwise ns) (hp.trans (sortI_perm ns).symm)
    subst e
    exact ⟨Step.fresh R hn, new_lst R hn (rep_ints _)⟩
  refine CallD.one (cr_sortedI.or (cr_sortedTu.or cr_sortLx)) fun H μ S H0 d v res R y eg => ?_
  unfold sortedD at eg
  split at eg
  · rename_i ds
    split at eg
    · rename_i ns hn
      cases eg
      have y := y.rep rfl
      unfold Rep at y
      obtain ⟨a, vs, rfl, hq, l⟩ := y
      have e := intsD_ok hn l
      subst e
      exact .inr (.inl ⟨a, ns, rfl, hq, fun ns' p hp hs hn => fin H μ S ns ns' p R hp hs hn⟩)
    · cases eg
  · split at eg
    · rename_i ns hn
      cases eg
      obtain ⟨a, rfl, hq⟩ := intsL_ok R y hn
      exact .inl ⟨a, ns, rfl, hq, fun ns' p hp hs hn => fin H μ S ns ns' p R hp hs hn⟩
    · split at eg
      · rename_i ds hd
        split at eg
        · rename_i nss ht
          cases eg
          obtain ⟨a, vs, rfl, hq, l⟩ := seqL_ok R y hd
          obtain ⟨rfl, hne⟩ := tupsD_ok ht
          refine .inr (.inr ⟨a, vs, rfl, hq, tups_at l hne, fun ys p hp hs hn => ⟨Step.fresh R hn, ?_⟩⟩)
          obtain ⟨nss', q1, q2⟩ := tups_perm hp nss l
          have e : nss' = sortL nss := lsorted_one (tups_sorted q2 hs) (sortL_pairwise nss) (q1.trans (sortL_perm nss).symm)
          rw [← e]
          exact new_lst R hn q2
        · cases eg
      · cases eg
theorem blt_all (hc : X.calm = true) : CallD X (.builtin "all") (one allD) := by
  refine CallD.one (cr_all hc) fun H μ S H0 d v res R y eg => ?_
  unfold allD at eg
  split at eg
  · rename_i ns h
    cases eg
    obtain ⟨a, rfl, q⟩ := boolsL_ok R y h
    exact ⟨a, ns, rfl, q, Step.refl R, res_bl⟩
  · cases eg
theorem blt_any (hc : X.calm = true) : CallD X (.builtin "any") (one anyD) := by
  refine CallD.one (cr_any hc) fun H μ S H0 d v res R y eg => ?_
  unfold anyD at eg
  split at eg
  · rename_i ns h
    cases eg
    obtain ⟨a, rfl, q⟩ := boolsL_ok R y h
    exact ⟨a, ns, rfl, q, Step.refl R, res_bl⟩
  · cases eg
theorem blt_sum (hc : X.calm = true) : CallD X (.builtin "sum") (one sumD) := by
  refine CallD.one (cr_sum hc) fun H μ S H0 d v res R y eg => ?_
  unfold sumD at eg
  split at eg
  · rename_i ns h
    cases eg
    obtain ⟨a, rfl, q⟩ := intsL_ok R y h
    exact ⟨a, ns, rfl, q, Step.refl R, res_int⟩
  · cases eg
theorem blt_max (hc : X.calm = true) : CallD X (.builtin "max") maxD := by
  refine CallD.of ((cr_max hc).or (call_max2 hc)) fun H μ S H0 ds vs res R x eg => ?_
  unfold maxD at eg
  split at eg
  · split at eg
    · rename_i ns h
      split at eg
      · rename_i k hk
        cases eg
        obtain ⟨v, rfl, y⟩ := resL_one x
        obtain ⟨a, rfl, q⟩ := intsL_ok R y h
        refine .inl ⟨a, ns, rfl, q, ?_, fun m hm hle => ?_⟩
        · cases ns with
          | nil => cases hk
          | cons _ _ => simp
        · rw [maxI_is hk hm hle]; exact ⟨Step.refl R, res_int⟩
      · cases eg
    · cases eg
  · cases eg
    obtain ⟨v, w, rfl, y1, y2⟩ := resL_two x
    cases rep_int y1; cases rep_int y2
    exact .inr ⟨_, _, rfl, Step.refl R, res_int⟩
  · cases eg
theorem blt_min (hc : X.calm = true) : CallD X (.builtin "min") minD := by
  refine CallD.of ((cr_min hc).or (call_min2 hc)) fun H μ S H0 ds vs res R x eg => ?_
  unfold minD at eg
  split at eg
  · split at eg
    · rename_i ns h
      split at eg
      · rename_i k hk
        cases eg
        obtain ⟨v, rfl, y⟩ := resL_one x
        obtain ⟨a, rfl, q⟩ := intsL_ok R y h
        refine .inl ⟨a, ns, rfl, q, ?_, fun m hm hle => ?_⟩
        · cases ns with
          | nil => cases hk
          | cons _ _ => simp
        · rw [minI_is hk hm hle]; exact ⟨Step.refl R, res_int⟩
      · cases eg
    · cases eg
  · cases eg
    obtain ⟨v, w, rfl, y1, y2⟩ := resL_two x
    cases rep_int y1; cases rep_int y2
    exact .inr ⟨_, _, rfl, Step.refl R, res_int⟩
  · cases eg
theorem blt_abs : CallD X (.builtin "abs") (one absD) := by
  refine CallD.one call_abs fun H μ S H0 d v res R y eg => ?_
  unfold absD at eg
  split at eg
  · cases eg
    exact ⟨_, by rw [rep_int y], Step.refl R, res_int⟩
  · cases eg
theorem blt_int : CallD X (.type "int") (one intD) := by
  refine CallD.one call_int1 fun H μ S H0 d v res R y eg => ?_
  unfold intD at eg
  split at eg
  · cases eg
    exact .inl ⟨_, by rw [rep_int y], Step.refl R, res_int⟩
  · cases eg
    exact .inr ⟨_, by rw [rep_bl y], Step.refl R, res_int⟩
  · cases eg
theorem blt_bool : CallD X (.type "bool") (one boolD) := by
  refine CallD.one call_bool1 fun H μ S H0 d v res R y eg => ?_
  unfold boolD at eg
  split at eg
  · cases eg
    exact .inl ⟨_, by rw [rep_int y], Step.refl R, res_bl⟩
  · cases eg
    exact .inr ⟨_, by rw [rep_bl y], Step.refl R, res_bl⟩
  · cases eg
theorem blt_str : CallD X (.type "str") (one strD) := by
  refine CallD.one call_str_int fun H μ S H0 d v res R y eg => ?_
  unfold strD at eg
  split at eg
  · split at eg
    · cases eg
      exact ⟨_, by rw [rep_int y], by assumption, Step.refl R, res_str⟩
    · cases eg
  · cases eg
theorem blt_divmod : CallD X (.builtin "divmod") divmodD := by
  refine CallD.of call_divmod fun H μ S H0 ds vs res R x eg => ?_
  unfold divmodD at eg
  split at eg
  · split at eg
    · rename_i hc
      cases eg
      obtain ⟨v, w, rfl, y1, y2⟩ := resL_two x
      cases rep_int y1; cases rep_int y2
      exact ⟨_, _, rfl, ⟨hc.lo, hc.hi⟩, fun p hp => ⟨Step.fresh R hp, new_tup R hp (rep_ints [_, _])⟩⟩
    · cases eg
  · cases eg
theorem blt_ok (hc : X.calm = true) : ∀ b : Blt, CallD X b.val (bltD b)
  | .len => blt_len
  | .list => blt_list
  | .tuple => blt_tuple
  | .sorted => blt_sorted
  | .all => blt_all hc
  | .any => blt_any hc
  | .sum => blt_sum hc
  | .max => blt_max hc
  | .min => blt_min hc
  | .abs => blt_abs
  | .int => blt_int
  | .str => blt_str
  | .bool => blt_bool
  | .divmod => blt_divmod
theorem blt_boot : ∀ b : Blt, bootBuiltins b.nm = some b.val := by intro b; cases b <;> decide +kernel
theorem blt_kind : ∀ b : Blt, (∃ id, b.val = .builtin id) ∨ ∃ T, b.val = .type T := by
  intro b; cases b <;> first | exact .inl ⟨_, rfl⟩ | exact .inr ⟨_, rfl⟩
theorem blt_name : ∀ b : Blt, b.nm ≠ "__name__" ∧ (b.nm == ("__debug__" : Str)) = false := by intro b; cases b <;> decide +kernel

/-! ### isinstance(a, T) -/
inductive Ty where | int | bool | str | tuple | list
  deriving DecidableEq
def Ty.nm : Ty → String | .int => "int" | .bool => "bool" | .str => "str" | .tuple => "tuple" | .list => "list"
def isiD (T : Ty) (d : D) (S : Store) : Option D := match d with
  | .non => some (.bl false)
  | .bl _ => some (.bl (decide (T = .int ∨ T = .bool)))
  | .int _ => some (.bl (decide (T = .int)))
  | .str _ => some (.bl (decide (T = .str)))
  | .tup _ => some (.bl (decide (T = .tuple)))
  | d => match seqL S d with
    | some _ => some (.bl (decide (T = .list)))
    | none => none
theorem kit_non (T : Ty) : kitB "NoneType" T.nm = some false := by cases T <;> decide +kernel
theorem kit_bl (T : Ty) : kitB "bool" T.nm = some (decide (T = .int ∨ T = .bool)) := by cases T <;> decide +kernel
theorem kit_int (T : Ty) : kitB "int" T.nm = some (decide (T = .int)) := by cases T <;> decide +kernel
theorem kit_str (T : Ty) : kitB "str" T.nm = some (decide (T = .str)) := by cases T <;> decide +kernel
theorem kit_tup (T : Ty) : kitB "tuple" T.nm = some (decide (T = .tuple)) := by cases T <;> decide +kernel
theorem kit_lst (T : Ty) : kitB "list" T.nm = some (decide (T = .list)) := by cases T <;> decide +kernel
theorem isi_ok {K : PySem.W.Frag} {mg : Str → Option Value} {μ : List Addr} {H0 H : Hp} {S : Store} {T : Ty} {d r : D} {v : V} (R : Rel K mg μ S H) (x : ResOk K mg μ H0 H d v) (h : isiD T d S = some r) :
    ∃ t b, TyX K H v t ∧ PySem.W.kitOne K t (.type T.nm) = some b ∧ r = .bl b := by
  have lst : ∀ ds, seqL S d = some ds → ∃ t, TyX K H v t ∧ t = .type "list" := fun ds h1 => by
    obtain ⟨a, vs, rfl, q, l⟩ := seqL_ok R x h1
    rcases q with (q | ⟨o, q⟩) | ⟨o, its, n, q, hc, _⟩
    · exact ⟨_, .base (.lst q), rfl⟩
    · exact ⟨_, .base (.frz q), rfl⟩
    · exact ⟨_, .kList q hc, rfl⟩
  unfold isiD at h
  split at h
  · cases h; cases rep_non x; exact ⟨_, _, .base .non, kit_ty (kit_non T), rfl⟩
  · cases h; cases rep_bl x; exact ⟨_, _, .base (.bl _), kit_ty (kit_bl T), rfl⟩
  · cases h; cases rep_int x; exact ⟨_, _, .base (.int _), kit_ty (kit_int T), rfl⟩
  · cases h; cases rep_str x; exact ⟨_, _, .base (.str _), kit_ty (kit_str T), rfl⟩
  · cases h
    obtain ⟨a, vs, rfl, q, l⟩ := seqT_ok x rfl
    rcases q with (q | ⟨o, q⟩) | ⟨o, its, n, q, hc, _⟩
    · exact ⟨_, _, .base (.tup q), kit_ty (kit_tup T), rfl⟩
    · exact ⟨_, _, .fTuple q, kit_ty (kit_tup T), rfl⟩
    · exact ⟨_, _, .kTuple q hc, kit_ty (kit_tup T), rfl⟩
  · split at h
    · rename_i ds h1
      cases h
      obtain ⟨t, q, rfl⟩ := lst ds h1
      exact ⟨_, _, q, kit_ty (kit_lst T), rfl⟩
    · cases h
def mIsi (T : Ty) (ma : M D) : M D := fun ρ S => (ma ρ S).bind fun d S1 => Out.of (isiD T d S1) S1
theorem ty_boot (T : Ty) : bootBuiltins (Str.ofString T.nm) = some (.type T.nm) := by cases T <;> decide +kernel
theorem ty_name (T : Ty) : (Str.ofString T.nm) ≠ "__name__" ∧ ((Str.ofString T.nm) == ("__debug__" : Str)) = false := by cases T <;> decide +kernel
theorem ev_isi {a : Expr} {T : Ty} {p p2 pos : Pos} {ma : M D} (hg : Gl X "isinstance") (hm : X.mg "isinstance" = none) (hg2 : Gl X (Str.ofString T.nm)) (hm2 : X.mg (Str.ofString T.nm) = none) (ha : EvE X W a ma) (hs : notStar a = true) :
    EvE X W (.Call (.Name "isinstance" p) [a, .Name (Str.ofString T.nm) p2] [] pos) (mIsi T ma) := by
  have hT : PE X (.Name (Str.ofString T.nm) p2) (tC (.ty T.nm)) := pe_bltn hg2 hm2 (ty_boot T) rfl (ty_name T).1 (ty_name T).2
  refine EvE.of_pe (pe_callB call_isi hg hm (by decide +kernel) (pa_cons ha.pe (pa_cons hT pa_nil rfl) (star_of hs)) (by decide) (by decide) (star_of hs) rfl) fun σ H μ S ρ R E F => ?_
  unfold mIsi at F ⊢
  refine tm1 R E F fun d S1 v μ1 H1 e st x R1 E1 F1 => ?_
  obtain ⟨r, er⟩ := fine_of F1
  obtain ⟨t, b, q1, q2, rfl⟩ := isi_ok R1 x er
  exact ⟨v, .ty T.nm, t, _, b, rfl, .ty _, q1, q2, .bl b, S1, μ1, by rw [e, bind_ok, er]; rfl, st, res_bl⟩

/-! ### list(range(..)), tuple(range(..)) -/
def rgOk (i j : Int) : Bool := decide (-(2 ^ 62) ≤ i ∧ i < 2 ^ 62 ∧ -(2 ^ 62) ≤ j ∧ j < 2 ^ 62 ∧ (j - i).toNat ≤ 2 ^ 24)
def mRgL (tup : Bool) (mi : M (List D × Guard)) : M D := fun ρ S => (mi ρ S).bind fun p S1 => if p.1.length ≤ 2 ^ 24 then .ok (if tup then .tup p.1 else .lst p.1) S1 else .fail
theorem rep_rg {K : PySem.W.Frag} {μ : List Addr} {H : Hp} (i j : Int) : RepL K μ H (rangeL i (j - i).toNat) (rgV i j) := by
  unfold rangeL rgV
  refine RepL.of_get (by simp) fun k d v h1 h2 => ?_
  rw [List.getElem?_map] at h1 h2
  cases hk : (List.range (j - i).toNat)[k]? with
  | none => rw [hk] at h1; cases h1
  | some m => rw [hk] at h1 h2; cases h1; cases h2; unfold Rep; rfl
theorem ev_rgL1 {a : Expr} {tup : Bool} {p p2 pos pos2 : Pos} {m : M D} (hc : X.calm = true) (hg : Gl X (if tup then "tuple" else "list")) (hm : X.mg (if tup then "tuple" else "list") = none) (hg2 : Gl X "range") (hm2 : X.mg "range" = none) (ha : EvE X W a m) (hs : notStar a = true) :
    EvE X W (.Call (.Name (if tup then "tuple" else "list") p) [.Call (.Name "range" p2) [a] [] pos2] [] pos) (mRgL tup (mRange1 m)) := by
  have hr := prg_1 (p := p2) (pos := pos2) hg2 hm2 ha.pe (star_of hs)
  have fin : ∀ {σ H μ S ρ}, Rel X.K X.mg μ S H → EnvOk X.K μ H ρ σ → Fine X.K X.mg W μ H σ (mRgL tup (mRange1 m) ρ S) →
      tRg1 (TM X W m) σ H fun i j H1 => RgOk i j ∧ ∀ q, H1 q = none → ∃ d S' μ', mRgL tup (mRange1 m) ρ S = .ok d S' ∧ Step X.K X.mg μ H μ' S' (upd H1 q (if tup then .tup (rgV i j) else .lst (rgV i j))) ∧ ResOk X.K X.mg μ' H (upd H1 q (if tup then .tup (rgV i j) else .lst (rgV i j))) d (.ref q) := by
    intro σ H μ S ρ R E F
    unfold mRgL mRange1 at F ⊢
    refine tm1 R E F.left fun d S1 v μ1 H1 e st x R1 E1 F1 => ?_
    rw [e, bind_ok] at F ⊢
    split at F1
    · rename_i j
      split at F1
      · rename_i hj
        simp only [if_pos hj, bind_ok] at F ⊢
        split at F
        · rename_i hl
          rw [if_pos hl]
          refine ⟨j, rep_int x, ⟨by omega, by omega, hj.1, hj.2, ?_⟩, fun q hq => ?_⟩
          · simpa [rangeL] using hl
          · refine ⟨_, S1, μ1, rfl, st.trans R (Step.fresh R1 hq), ?_⟩
            have rr := rep_rg (K := X.K) (μ := μ1) (H := H1) 0 j
            rw [Int.sub_zero] at rr
            cases tup with
            | true => exact (new_tup R1 hq rr).back R st
            | false => exact (new_lst R1 hq rr).back R st
        · exact F.elim
      · exact F1.elim
    · exact F1.elim
  cases tup with
  | true => exact EvE.of_pe (pe_tupRg hc hg hm hr rfl) fun σ H μ S ρ R E F => fin R E F
  | false => exact EvE.of_pe (pe_listRg hc hg hm hr rfl) fun σ H μ S ρ R E F => fin R E F
theorem ev_rgL2 {a b : Expr} {tup : Bool} {p p2 pos pos2 : Pos} {m m' : M D} (hc : X.calm = true) (hg : Gl X (if tup then "tuple" else "list")) (hm : X.mg (if tup then "tuple" else "list") = none) (hg2 : Gl X "range") (hm2 : X.mg "range" = none) (ha : EvE X W a m) (hb : EvE X W b m') (hs : notStar a = true) (hs' : notStar b = true) :
    EvE X W (.Call (.Name (if tup then "tuple" else "list") p) [.Call (.Name "range" p2) [a, b] [] pos2] [] pos) (mRgL tup (mRange2 m m')) := by
  have hr := prg_2 (p := p2) (pos := pos2) hg2 hm2 ha.pe hb.pe (star_of hs) (star_of hs') (by rw [star_of hs']; rfl)
  have fin : ∀ {σ H μ S ρ}, Rel X.K X.mg μ S H → EnvOk X.K μ H ρ σ → Fine X.K X.mg W μ H σ (mRgL tup (mRange2 m m') ρ S) →
      tRg2 (TM X W m) (TM X W m') σ H fun i j H1 => RgOk i j ∧ ∀ q, H1 q = none → ∃ d S' μ', mRgL tup (mRange2 m m') ρ S = .ok d S' ∧ Step X.K X.mg μ H μ' S' (upd H1 q (if tup then .tup (rgV i j) else .lst (rgV i j))) ∧ ResOk X.K X.mg μ' H (upd H1 q (if tup then .tup (rgV i j) else .lst (rgV i j))) d (.ref q) := by
    intro σ H μ S ρ R E F
    unfold mRgL mRange2 at F ⊢
    refine tm1 R E F.left fun d S1 v μ1 H1 e st x R1 E1 F1 => ?_
    refine tm1 R1 E1 F1 fun d2 S2 v2 μ2 H2 e2 st2 x2 R2 E2 F2 => ?_
    rw [e, bind_ok, e2, bind_ok] at F ⊢
    split at F2
    · rename_i i j
      split at F2
      · rename_i hj
        simp only [if_pos hj, bind_ok] at F ⊢
        split at F
        · rename_i hl
          rw [if_pos hl]
          refine ⟨i, j, rep_int x, rep_int x2, ⟨hj.1.lo, hj.1.hi, hj.2.lo, hj.2.hi, ?_⟩, fun q hq => ?_⟩
          · simpa [rangeL] using hl
          · have st12 := st.trans R st2
            refine ⟨_, S2, μ2, rfl, st12.trans R (Step.fresh R2 hq), ?_⟩
            have rr := rep_rg (K := X.K) (μ := μ2) (H := H2) i j
            cases tup with
            | true => exact (new_tup R2 hq rr).back R st12
            | false => exact (new_lst R2 hq rr).back R st12
        · exact F.elim
      · exact F2.elim
    · exact F2.elim
  cases tup with
  | true => exact EvE.of_pe (pe_tupRg hc hg hm hr rfl) fun σ H μ S ρ R E F => fin R E F
  | false => exact EvE.of_pe (pe_listRg hc hg hm hr rfl) fun σ H μ S ρ R E F => fin R E F
end Ev
/-! Ev9: methods of lists, x += e, chains, xs[i] = e, enumerate. -/
namespace Ev
open PySem PySem.Spec PyProof.Rows L2
section
variable {X : Cx} {W : WX}

theorem sql_at {K : PySem.W.Frag} {mg : Str → Option Value} {μ : List Addr} {H0 H : Hp} {S : Store} {n : Nat} {ds : List D} {v : V} (R : Rel K mg μ S H) (hn : S[n]? = some (.lst ds)) (x : ResOk K mg μ H0 H (.ref n) v) :
    ∃ a vs, v = .ref a ∧ μ[n]? = some a ∧ H a = some (.lst vs) ∧ RepL K μ H ds vs := by
  have x := x.rep rfl
  unfold Rep at x
  obtain ⟨a, ha, rfl⟩ := x
  obtain ⟨C, dx, vs, _, h, _, r⟩ := R.cell n a _ ha hn
  exact ⟨a, vs, rfl, ha, h, r⟩
theorem tyV_lst {K : PySem.W.Frag} {H : Hp} {a : Addr} {vs : List V} (h : H a = some (.lst vs)) : tyV K "list" (.ref a) H := .inl ⟨rfl, _, SqL.of h⟩

def isLst (S : Store) (n : Nat) : Bool := match S[n]? with
  | some (.lst _) => true
  | _ => false
theorem isLst_ok {S : Store} {n : Nat} (h : isLst S n = true) : ∃ ds, S[n]? = some (.lst ds) := by
  unfold isLst at h
  split at h
  · exact ⟨_, by assumption⟩
  · cases h
/-- o.append(e) -/
def mApp (mo me : M D) : M D := fun ρ S => (mo ρ S).bind fun o S1 => match o with
  | .ref n => if isLst S1 n = true then (me ρ S1).bind fun d S2 => match (box d S2).2[n]? with
    | some (.lst ds) => if ds.length < sizeLine then .ok .non ((box d S2).2.set n (.lst (ds ++ [(box d S2).1]))) else .fail
    | _ => .fail
    else .fail
  | _ => .fail
theorem pa_one {e : Expr} {m : M D} (he : EvE X W e m) (hs : notStar e = true) : PA X [e] (tCons (TM X W m) tNil) := pa_cons he.pe pa_nil (star_of hs)
theorem ev_app {o e : Expr} {apos pos : Pos} {mo me : M D} (ho : EvE X W o mo) (he : EvE X W e me) (hb : notCall0 o = true) (hs : notStar e = true) (hline : (apos.endLine == pos.line) = true) :
    EvE X W (.Call (.Attribute o "append" apos) [e] [] pos) (mApp mo me) := by
  refine EvE.of_pe (pe_bm (T := "list") (id := "list.append") PySem.F.plainAttrs_list PySem.F.slot_list_append PySem.F.type_list_append mt_append ho.pe (pa_one he hs) (base_of hb _) (by rw [star_of hs]; rfl) hline (star_of hs) rfl) fun σ H μ S ρ R E F => ?_
  unfold mApp at F ⊢
  refine tm1 R E F fun d S1 v μ1 H1 e1 st x R1 E1 F1 => ?_
  rw [e1, bind_ok]
  split at F1
  · rename_i n
    split at F1
    · rename_i hl
      obtain ⟨ds0, h0⟩ := isLst_ok hl
      obtain ⟨a, vs, rfl, ha, hH, _⟩ := sql_at R1 h0 x
      refine ⟨tyV_lst hH, ?_⟩
      simp only [hl, if_true]
      refine tm1 R1 E1 F1 fun d2 S2 w μ2 H2 e2 st2 x2 R2 E2 F2 => ?_
      rw [e2, bind_ok]
      obtain ⟨μ3, st3, r3, ext, em⟩ := st2.box x2
      have R3 := st3.rel
      split at F2
      · rename_i ds hn
        split at F2
        · rename_i hz
          have xr : ResOk X.K X.mg μ3 H2 H2 (.ref n) (.ref a) := ResOk.step R1 st3 x |> fun z => ResOk.plain (z.rep rfl)
          obtain ⟨a', vs', ea, ha3, hH2, rl⟩ := sql_at R3 hn xr
          cases ea
          refine ⟨a, vs', w, rfl, rfl, hH2, by rw [← rl.length]; exact hz, ?_⟩
          have rr : RepL X.K μ3 H2 (ds ++ [(box d2 S2).1]) (vs' ++ [w]) := rl.append (RepL.cons r3 RepL.nil)
          have stw := Step.write (K := X.K) (mg := X.mg) (n := n) (C := 0) (dx := 0) (c := .lst (ds ++ [(box d2 S2).1])) (vs := vs' ++ [w]) R3 ha3 trivial trivial rr
          refine ⟨.non, _, μ3, ?_, (st.trans R (st3.trans R1 stw)), res_non⟩
          simp only [hz, if_true]
        · exact F2.elim
      · exact F2.elim
    · exact F1.elim
  · exact F1.elim

/-- o.pop() -/
def mPop (mo : M D) : M D := fun ρ S => (mo ρ S).bind fun o S1 => match o with
  | .ref n => match S1[n]? with
    | some (.lst ds) => match ds[ds.length - 1]? with
      | some d => .ok d (S1.set n (.lst ds.dropLast))
      | none => .fail
    | _ => .fail
  | _ => .fail
theorem repL_get {K : PySem.W.Frag} {μ : List Addr} {H : Hp} : ∀ {ds : List D} {vs : List V} {i : Nat} {d : D}, RepL K μ H ds vs → ds[i]? = some d → ∃ v, vs[i]? = some v ∧ Rep K μ H d v := by
  intro ds
  induction ds with
  | nil => intro vs i d r h; simp at h
  | cons e es ih =>
    intro vs i d r h
    obtain ⟨v, w, rfl, r1, r2⟩ := RepL.cons_iff.mp r
    cases i with
    | zero => cases h; exact ⟨v, rfl, r1⟩
    | succ i => rw [List.getElem?_cons_succ] at h ⊢; exact ih r2 h
theorem repL_dropLast {K : PySem.W.Frag} {μ : List Addr} {H : Hp} : ∀ {ds : List D} {vs : List V}, RepL K μ H ds vs → RepL K μ H ds.dropLast vs.dropLast := by
  intro ds vs r
  rw [List.dropLast_eq_take, List.dropLast_eq_take, r.length]
  exact r.take _
theorem repL_erase {K : PySem.W.Frag} {μ : List Addr} {H : Hp} {ds : List D} {vs : List V} (i : Nat) (r : RepL K μ H ds vs) : RepL K μ H (ds.eraseIdx i) (vs.eraseIdx i) := by
  rw [List.eraseIdx_eq_take_drop_succ, List.eraseIdx_eq_take_drop_succ]
  exact (r.take _).append (r.drop _)
theorem repL_set {K : PySem.W.Frag} {μ : List Addr} {H : Hp} {d : D} {v : V} : ∀ {ds : List D} {vs : List V} (i : Nat), RepL K μ H ds vs → Rep K μ H d v → RepL K μ H (ds.set i d) (vs.set i v) := by
  intro ds
  induction ds with
  | nil => intro vs i r _; rw [RepL.nil_iff] at r; subst r; exact RepL.nil
  | cons e es ih =>
    intro vs i r q
    obtain ⟨u, w, rfl, r1, r2⟩ := RepL.cons_iff.mp r
    cases i with
    | zero => exact RepL.cons q r2
    | succ i => exact RepL.cons r1 (ih i r2 q)
theorem ev_pop {o : Expr} {apos pos : Pos} {mo : M D} (ho : EvE X W o mo) (hb : notCall0 o = true) (hline : (apos.endLine == pos.line) = true) :
    EvE X W (.Call (.Attribute o "pop" apos) [] [] pos) (mPop mo) := by
  refine EvE.of_pe (pe_bm0 (T := "list") (id := "list.pop") PySem.F.plainAttrs_list PySem.F.slot_list_pop PySem.F.type_list_pop mt_pop ho.pe (base_of hb _) hline) fun σ H μ S ρ R E F => ?_
  unfold mPop at F ⊢
  refine tm1 R E F fun d S1 v μ1 H1 e1 st x R1 E1 F1 => ?_
  rw [e1, bind_ok]
  split at F1
  · rename_i n
    split at F1
    · rename_i ds hn
      obtain ⟨a, vs, rfl, ha, hH, rl⟩ := sql_at R1 hn x
      refine ⟨tyV_lst hH, ?_⟩
      split at F1
      · rename_i d hd
        obtain ⟨w, hw, rw'⟩ := repL_get rl hd
        refine ⟨a, vs, w, rfl, rfl, hH, by rw [← rl.length]; exact hw, ?_⟩
        have stw := Step.write (K := X.K) (mg := X.mg) (n := n) (C := 0) (dx := 0) (c := .lst ds.dropLast) (vs := vs.dropLast) R1 ha trivial trivial (repL_dropLast rl)
        refine ⟨d, _, μ1, rfl, st.trans R stw, ResOk.plain (stw.rep R1 rw')⟩
      · exact F1.elim
    · exact F1.elim
  · exact F1.elim
open Classical in
/-- o.pop(i) -/
noncomputable def mPopAt (mo me : M D) : M D := fun ρ S => (mo ρ S).bind fun o S1 => match o with
  | .ref n => if isLst S1 n = true then (me ρ S1).bind fun e S2 => match e with
    | .int i => match S2[n]? with
      | some (.lst ds) => if In63 i then match seqIndex? i ds.length with
        | some k => match ds[k]? with
          | some d => .ok d (S2.set n (.lst (ds.eraseIdx k)))
          | none => .fail
        | none => .fail
        else .fail
      | _ => .fail
    | _ => .fail
    else .fail
  | _ => .fail
theorem ev_popAt {o e : Expr} {apos pos : Pos} {mo me : M D} (ho : EvE X W o mo) (he : EvE X W e me) (hb : notCall0 o = true) (hs : notStar e = true) (hline : (apos.endLine == pos.line) = true) :
    EvE X W (.Call (.Attribute o "pop" apos) [e] [] pos) (mPopAt mo me) := by
  refine EvE.of_pe (pe_bm (T := "list") (id := "list.pop") PySem.F.plainAttrs_list PySem.F.slot_list_pop PySem.F.type_list_pop mt_popAt ho.pe (pa_one he hs) (base_of hb _) (by rw [star_of hs]; rfl) hline (star_of hs) rfl) fun σ H μ S ρ R E F => ?_
  unfold mPopAt at F ⊢
  refine tm1 R E F fun d S1 v μ1 H1 e1 st x R1 E1 F1 => ?_
  rw [e1, bind_ok]
  split at F1
  · rename_i n
    split at F1
    · rename_i hl
      obtain ⟨ds0, h0⟩ := isLst_ok hl
      obtain ⟨a, vs, rfl, ha, hH, _⟩ := sql_at R1 h0 x
      refine ⟨tyV_lst hH, ?_⟩
      simp only [hl, if_true]
      refine tm1 R1 E1 F1 fun d2 S2 w μ2 H2 e2 st2 x2 R2 E2 F2 => ?_
      rw [e2, bind_ok]
      split at F2
      · rename_i i
        split at F2
        · rename_i ds hn
          split at F2
          · rename_i hi
            split at F2
            · rename_i k hk
              split at F2
              · rename_i d hd
                have xr : ResOk X.K X.mg μ2 H2 H2 (.ref n) (.ref a) := ResOk.step R1 st2 x |> fun z => ResOk.plain (z.rep rfl)
                obtain ⟨a', vs', ea, ha2, hH2, rl⟩ := sql_at R2 hn xr
                cases ea
                obtain ⟨y, hy, ry⟩ := repL_get rl hd
                refine ⟨a, vs', i, k, y, rfl, by rw [rep_int x2], hH2, hi.1, hi.2, by rw [← rl.length]; exact hk, hy, ?_⟩
                have stw := Step.write (K := X.K) (mg := X.mg) (n := n) (C := 0) (dx := 0) (c := .lst (ds.eraseIdx k)) (vs := vs'.eraseIdx k) R2 ha2 trivial trivial (repL_erase k rl)
                refine ⟨d, _, μ2, ?_, st.trans R (st2.trans R1 stw), ResOk.plain (stw.rep R2 ry)⟩
                simp only [hi, hk, hd, and_self, if_true]
              · exact F2.elim
            · exact F2.elim
          · exact F2.elim
        · exact F2.elim
      · exact F2.elim
    · exact F1.elim
  · exact F1.elim

/-! ### x += e -/
def sAug (i : Nat) (f : Int → Int → Int) (me : M D) : MS := fun ρ S => match ρ[i]? with
  | some (some (.int a)) => (me ρ S).s ρ fun d S1 => match d with
    | .int b => .next (ρ.set i (some (.int (f a b)))) S1
    | _ => .fail
  | _ => .fail
theorem evs_aug {i : Nat} {x : Str} {e : Expr} {me : M D} {op : Operator} {f : Int → Int → Int} {pos pos' : Pos} (hp : PIp X op (ipI f)) (hN : X.N.Nodup) (hi : X.N[i]? = some x) (hx : Loc X.env.scope x) (hf : X.fn x = true ∨ X.env.scope.names.lookup x = some .local) (he : EvE X W e me) :
    EvS X W (.AugAssign (.Name x pos') op e pos) (sAug i f me) := by
  refine PS.imp (ps_aug hN hi hx he.pe hp hf) fun E σ H ⟨μ, S, ρ, R, En, G⟩ => ?_
  unfold sAug at G
  split at G
  · rename_i a ha
    obtain ⟨v, hv, rv⟩ := En.at_ _ _ ha
    unfold Rep at rv
    subst rv
    refine ⟨_, hv, ?_⟩
    refine tms1 R En G fun d S1 w μ1 H1 e1 st x R1 E1 G1 => ?_
    split at G1
    · rename_i b
      refine ⟨a, b, rfl, rep_int x, ?_⟩
      exact G1 _ μ1 H1 (Step.refl R1) (E1.set i (by unfold Rep; rfl))
    · exact G1.elim
  · exact G.elim
theorem evs_add {i : Nat} {x : Str} {e : Expr} {me : M D} {pos pos' : Pos} (hN : X.N.Nodup) (hi : X.N[i]? = some x) (hx : Loc X.env.scope x) (hf : X.fn x = true ∨ X.env.scope.names.lookup x = some .local) (he : EvE X W e me) :
    EvS X W (.AugAssign (.Name x pos') .Add e pos) (sAug i (fun a b => a + b) me) := evs_aug ip_add hN hi hx hf he
theorem evs_sub {i : Nat} {x : Str} {e : Expr} {me : M D} {pos pos' : Pos} (hN : X.N.Nodup) (hi : X.N[i]? = some x) (hx : Loc X.env.scope x) (hf : X.fn x = true ∨ X.env.scope.names.lookup x = some .local) (he : EvE X W e me) :
    EvS X W (.AugAssign (.Name x pos') .Sub e pos) (sAug i (fun a b => a - b) me) := evs_aug ip_sub hN hi hx hf he
end
end Ev
/-! Ev10: what the printed terms lean on. -/
namespace Ev
open PySem PySem.Spec PyProof.Rows L2

def visB (sc : Scope) (x : Str) : Bool := match sc.names.lookup x with
  | some .local => true
  | some .cell => true
  | some .free => true
  | _ => false
theorem vis_of {sc : Scope} {x : Str} (h : visB sc x = true) : Vis sc x := by
  unfold visB at h
  split at h
  · exact .inl (by assumption)
  · exact .inr (.inl (by assumption))
  · exact .inr (.inr (by assumption))
  · cases h
def locB (sc : Scope) (x : Str) : Bool := match sc.names.lookup x with
  | some .local => true
  | some .cell => true
  | _ => false
theorem loc_of {sc : Scope} {x : Str} (h : locB sc x = true) : Loc sc x := by
  unfold locB at h
  split at h
  · exact .inl (by assumption)
  · exact .inr (by assumption)
  · cases h
theorem takes0 {X : Cx} : L2N.Takes X W0 := fun u s' ⟨_, _, _, _, _, _, _, _, _, _, _, _, _, _, _, _, h⟩ => h.elim
/-- a def that may be called, with room for k calls within one another -/
structure Cal (P : Program) (w : World) (K : PySem.W.Frag) (mg : Str → Option Value) (base : Heap) (x : Str) (n : Nat) (f : Fn) (k : Nat) : Prop where
  ex : ∃ (a : Addr) (fd : FuncData) (ps : List Str), mg x = some (.ref a) ∧ PySem.W.keepIn K (.ref a) = true ∧ Binds K fd ps [] ∧ FnOk P w K mg base (L2N.CX P w) k a fd ps (spOf K mg n f)
theorem Cal.ok {X : Cx} {x : Str} {n : Nat} {f : Fn} {k : Nat} (c : Cal X.prog X.w X.K X.mg X.base x n f k) (hr : Room k X.A) : CallOk X x n f :=
  let ⟨a, fd, ps, h1, h2, h3, h4⟩ := c.ex
  ⟨⟨a, fd, ps, k, h1, h2, h3, hr, h4⟩⟩

theorem fn_fail {P : Program} {w : World} {K : PySem.W.Frag} {mg : Str → Option Value} {base : Heap} {CX : CXT} {k : Nat} {fa : Addr} {fd : FuncData} {ps : List Str} {n : Nat} : FnOk P w K mg base CX k fa fd ps (spOf K mg n fun _ _ => .fail) :=
  ⟨fun vs H Q E h => by obtain ⟨_, _, _, _, _, _, z⟩ := h; exact z.elim, fun A outer s H args us vs Q E hr he hb hv hs => by obtain ⟨_, _, _, _, _, _, z⟩ := hs; exact z.elim⟩
/-! ### the law's end -/
def spLaw (K : PySem.W.Frag) : Sp := fun vs H Q _ => ∃ (a : Addr) (ns : List Int), vs = [.ref a] ∧ SqL K H a (ns.map V.int) ∧ Only H ∧ ns.length ≤ 63 ∧ (∀ z ∈ ns, Builtin.Int.intBits z ≤ 1048576) ∧ ∀ H', Q (.bl true) H'
theorem sqF_only {K : PySem.W.Frag} {H : Hp} {a : Addr} {xs : List V} (hO : Only H) (h : SqL K H a xs) : SqF K H a xs := by
  rcases h with (h | ⟨o, h⟩) | h
  · rcases hO a with e | ⟨o, ys, e⟩ <;> rw [e] at h <;> cases h
  · exact .inl ⟨o, h⟩
  · exact .inr h
/-- what the law is asked: at every script it tells True -/
def Good (f : Fn) : Prop := ∀ ns : List Int, ns.length ≤ 63 → (∀ z ∈ ns, Builtin.Int.intBits z ≤ 1048576) → ∃ S, f [.fro (ns.map D.int)] [] = .ok (.bl true) S
theorem law_ok {P : Program} {w : World} {K : PySem.W.Frag} {mg : Str → Option Value} {base : Heap} {CX : CXT} {k : Nat} {fa : Addr} {fd : FuncData} {ps : List Str} {f : Fn} (h : Good f) (F : FnOk P w K mg base CX k fa fd ps (spOf K mg 1 f)) : FnOk P w K mg base CX k fa fd ps (spLaw K) := by
  refine F.imp fun vs H Q E ⟨a, ns, e, hs, hO, hl, hb, q⟩ => ?_
  subst e
  obtain ⟨S, e⟩ := h ns hl hb
  refine ⟨[], [], [.fro (ns.map .int)], Rel.nil, ?_, rfl, ?_⟩
  · refine ResL.cons (ResOk.plain ?_) .nil ?_
    · unfold Rep
      exact ⟨a, _, rfl, sqF_only hO hs, rep_ints ns⟩
    · simp [newA]
  · rw [e]
    intro v μ' H' st x
    have x : Rep K μ' H' (.bl true) v := x
    unfold Rep at x
    subst x
    exact q H'
theorem cx_false {P : Program} {w : World} {H : Hp} {s : Shared} {e : Value} {s' : Shared} (h : L2N.CX P w [] H s (fun _ _ _ => False) e s') : False := by
  obtain ⟨_, _, _, _, _, _, _, _, _, _, _, _, z⟩ := h
  exact z
theorem walk {l : PySem.W.OpenLaw} {q : Program} {loose : List Str} {XP : (Str → Option Value) → Heap → Prop} {YP : World → Heap → Prop} {d : DefRec} {K : Params → PySem.W.Frag} {x : Str} {k : Nat} (hn : l.most = some 63) (hdf : d.params.defaults = []) (hr : Room k callerA)
    (hY : ∀ (w : World) (h : Heap), YP w h → (K w.params).In h)
    (F : ∀ (w : World) (mg : Str → Option Value) (fa : Addr) (h : Heap), (K w.params).In h → h.Ns mainGlobals mg → mg d.name = some (.ref fa) →
      ∃ fd : FuncData, (∀ (s : Shared) (u : Value), BindsTo s fd ⟨[u], []⟩ [(x, u)]) ∧ ∀ base : Heap, (K w.params).In base → base.Ns mainGlobals mg → FnOk l.prog w (K w.params) mg base (L2N.CX l.prog w) k fa fd [x] (spLaw (K w.params))) :
    PySem.W.WalkO q loose XP YP l.row.toRowW d [] (fun f vs => PySem.call f vs) :=
  L2.walk_ofB (n := 63) (k := k) (x := x) (CX := fun w => L2N.CX l.prog w) (sp := fun w => spLaw (K w.params)) hn (by decide) hdf hr hY F (fun _ _ a ns hl hb hO hS => ⟨a, ns, rfl, hS, hO, hl, hb, fun _ => rfl⟩) fun _ _ _ _ _ z => cx_false z
end Ev
/-! Ev11: plain tools: what the printed terms come to. -/
namespace Ev
open PySem PySem.Spec PyProof.Rows L2

/-! ### one step -/
section
variable {i : Nat} {ρ : Env'} {S : Store} {d e : D} {a b : M D} {g : D → D → Store → Option D}
@[simp] theorem x_var : mVar i ρ S = match ρ[i]? with
    | some (some d) => .ok d S
    | _ => .fail := (rfl)
@[simp] theorem x_lit : mLit d ρ S = .ok d S := (rfl)
@[simp] theorem x_bin : mBin g a b ρ S = (a ρ S).bind fun d S1 => (b ρ S1).bind fun e S2 => Out.of (g d e S2) S2 := (rfl)
@[simp] theorem x_neg : mNeg a ρ S = (a ρ S).bind fun d S1 => match d with
  | .int i => .ok (.int (-i)) S1
  | _ => .fail := (rfl)
@[simp] theorem x_tru : mTru a ρ S = (a ρ S).bind fun d S1 => Out.of (truD S1 d) S1 := (rfl)
@[simp] theorem x_notT {m : M Bool} : mNotT m ρ S = (m ρ S).bind fun b S1 => .ok (!b) S1 := (rfl)
@[simp] theorem x_notV : mNotV a ρ S = (a ρ S).bind fun d S1 => match truD S1 d with
  | some b => .ok (.bl (!b)) S1
  | none => .fail := (rfl)
@[simp] theorem x_ite {c : M Bool} {α : Type} {a b : M α} : mIte c a b ρ S = (c ρ S).bind fun k S1 => if k = true then a ρ S1 else b ρ S1 := (rfl)
@[simp] theorem x_endT {b : Bool} : mEndT b ρ S = .ok b S := (rfl)
@[simp] theorem x_andT {a b : M Bool} : mAndT a b ρ S = (a ρ S).bind fun k S1 => if k = true then b ρ S1 else .ok false S1 := (rfl)
@[simp] theorem x_orT {a b : M Bool} : mOrT a b ρ S = (a ρ S).bind fun k S1 => if k = true then .ok true S1 else b ρ S1 := (rfl)
@[simp] theorem x_andV : mAndV a b ρ S = (a ρ S).bind fun d S1 => match d with
  | .bl true => b ρ S1
  | .bl false => .ok (.bl false) S1
  | _ => .fail := (rfl)
@[simp] theorem x_orV : mOrV a b ρ S = (a ρ S).bind fun d S1 => match d with
  | .bl true => .ok (.bl true) S1
  | .bl false => b ρ S1
  | _ => .fail := (rfl)
@[simp] theorem x_noPart : mNoPart ρ S = .ok none S := (rfl)
@[simp] theorem x_part : mPart a ρ S = (a ρ S).bind fun d S1 => match d with
  | .int i => .ok (some i) S1
  | _ => .fail := (rfl)
@[simp] theorem x_cut {l h : M (Option Int)} : mCut a l h ρ S = (a ρ S).bind fun d S1 => (l ρ S1).bind fun l S2 => (h ρ S2).bind fun h S3 => Out.of (cutD d l h S3) S3 := (rfl)
@[simp] theorem x_rev : mRev a ρ S = (a ρ S).bind fun d S1 => match seqL S1 d with
  | some ds => .ok (.lst ds.reverse) S1
  | none => .fail := (rfl)
@[simp] theorem x_nil : mNil ρ S = .ok [] S := (rfl)
@[simp] theorem x_cons {r : M (List D)} : mCons a r ρ S = (a ρ S).bind fun d S1 => (r ρ S1).bind fun ds S2 => .ok (d :: ds) S2 := (rfl)
@[simp] theorem x_tup {r : M (List D)} : mTup r ρ S = (r ρ S).bind fun ds S1 => if ds.length ≤ sizeLine then .ok (.tup (boxL ds S1).1) (boxL ds S1).2 else .fail := (rfl)
@[simp] theorem x_lst {r : M (List D)} : mLst r ρ S = (r ρ S).bind fun ds S1 => if ds.length ≤ sizeLine then .ok (.lst (boxL ds S1).1) (boxL ds S1).2 else .fail := (rfl)
@[simp] theorem x_call {n : Nat} {f : Fn} {r : M (List D)} : mCall n f r ρ S = (r ρ S).bind fun ds S1 => if ds.length = n then f ds S1 else .fail := (rfl)
@[simp] theorem x_blt {g : List D → Store → Option D} {r : M (List D)} : mBlt g r ρ S = (r ρ S).bind fun ds S1 => Out.of (g ds S1) S1 := (rfl)
@[simp] theorem x_isi {T : Ty} : mIsi T a ρ S = (a ρ S).bind fun d S1 => Out.of (isiD T d S1) S1 := (rfl)
@[simp] theorem x_rgL {t : Bool} {r : M (List D × Guard)} : mRgL t r ρ S = (r ρ S).bind fun p S1 => if p.1.length ≤ 2 ^ 24 then .ok (if t then .tup p.1 else .lst p.1) S1 else .fail := (rfl)
@[simp] theorem x_app : mApp a b ρ S = (a ρ S).bind fun o S1 => match o with
  | .ref n => if isLst S1 n = true then (b ρ S1).bind fun d S2 => match (box d S2).2[n]? with
    | some (.lst ds) => if ds.length < sizeLine then .ok .non ((box d S2).2.set n (.lst (ds ++ [(box d S2).1]))) else .fail
    | _ => .fail
    else .fail
  | _ => .fail := (rfl)
@[simp] theorem x_iter : mIter a ρ S = (a ρ S).bind fun d S1 => Out.of (itemsD S1 d) S1 := (rfl)
open Classical in
@[simp] theorem x_range1 : mRange1 a ρ S = (a ρ S).bind fun d S1 => match d with
  | .int j => if In62 j then .ok (rangeL 0 j.toNat, []) S1 else .fail
  | _ => .fail := (rfl)
open Classical in
@[simp] theorem x_range2 : mRange2 a b ρ S = (a ρ S).bind fun d S1 => (b ρ S1).bind fun e S2 => match d, e with
  | .int i, .int j => if In62 i ∧ In62 j then .ok (rangeL i (j - i).toNat, []) S2 else .fail
  | _, _ => .fail := (rfl)
@[simp] theorem x_bName : bName i d ρ = some (ρ.set i (some d)) := (rfl)
@[simp] theorem x_bNil : bNil [] ρ = some ρ := (rfl)
@[simp] theorem x_bCons {b : Bind} {r : BindL} {ds : List D} : bCons b r (d :: ds) ρ = match b d ρ with
  | some ρ1 => r ds ρ1
  | none => none := (rfl)
@[simp] theorem x_bTup {r : BindL} {n : Nat} {ds : List D} : bTup r n (.tup ds) ρ = if ds.length = n then r ds ρ else none := (rfl)
@[simp] theorem x_next : sNext ρ S = .next ρ S := (rfl)
@[simp] theorem x_brk : sBrk ρ S = .brk ρ S := (rfl)
@[simp] theorem x_cont : sCont ρ S = .cont ρ S := (rfl)
@[simp] theorem x_expr : sExpr a ρ S = (a ρ S).s ρ fun _ S1 => .next ρ S1 := (rfl)
@[simp] theorem x_ret : sRet a ρ S = (a ρ S).s ρ fun d S1 => .ret d S1 := (rfl)
@[simp] theorem x_retN : sRetN ρ S = .ret .non S := (rfl)
@[simp] theorem x_if {c : M Bool} {a b : MS} : sIf c a b ρ S = (c ρ S).s ρ fun k S1 => if k = true then a ρ S1 else b ρ S1 := (rfl)
@[simp] theorem x_asg {b : Bind} : sAsg b a ρ S = (a ρ S).s ρ fun d S1 => match b (box d S1).1 ρ with
  | some ρ1 => .next ρ1 (box d S1).2
  | none => .fail := (rfl)
@[simp] theorem x_aug {f : Int → Int → Int} : sAug i f a ρ S = match ρ[i]? with
  | some (some (.int x)) => (a ρ S).s ρ fun d S1 => match d with
    | .int y => .next (ρ.set i (some (.int (f x y)))) S1
    | _ => .fail
  | _ => .fail := (rfl)
theorem x_seq {a b : MS} {ρ1 : Env'} {S1 : Store} (h : a ρ S = .next ρ1 S1) : sSeq a b ρ S = b ρ1 S1 := by unfold sSeq; rw [h]
theorem x_seq_ret {a b : MS} {S1 : Store} (h : a ρ S = .ret d S1) : sSeq a b ρ S = .ret d S1 := by unfold sSeq; rw [h]
end

theorem x_seqM {a b : MS} {ρ : Env'} {S : Store} : sSeq a b ρ S = match a ρ S with
  | .next ρ1 S1 => b ρ1 S1
  | r => r := (rfl)
theorem run_ret {body : MS} {n : Nat} {ds : List D} {S S2 S3 : Store} {d r : D} (e : body ((boxL ds S).1.map some ++ List.replicate (n - ds.length) none) (boxL ds S).2 = .ret d S2) (c : closeD S d S2 = (r, S3)) : runBody body n ds S = .ok r S3 := by
  unfold runBody
  rw [e]
  show Out.ok (closeD S d S2).1 (closeD S d S2).2 = _
  rw [c]
theorem run_next {body : MS} {n : Nat} {ds : List D} {S S2 : Store} {ρ : Env'} (e : body ((boxL ds S).1.map some ++ List.replicate (n - ds.length) none) (boxL ds S).2 = .next ρ S2) : runBody body n ds S = .ok .non (closeD S .non S2).2 := by
  unfold runBody
  rw [e]

theorem good_of {body : MS} {n : Nat} (h : ∀ ns : List Int, ns.length ≤ 63 → (∀ z ∈ ns, Builtin.Int.intBits z ≤ 1048576) → ∃ S, body (some (.fro (ns.map D.int)) :: List.replicate (n - 1) none) [] = .ret (.bl true) S) : Good (runBody body n) := fun ns h1 h2 => by
  obtain ⟨S, e⟩ := h ns h1 h2
  exact ⟨_, run_ret (d := .bl true) (S2 := S) (r := (closeD [] (.bl true) S).1) (S3 := (closeD [] (.bl true) S).2) e rfl |>.trans (by rw [show (closeD [] (.bl true) S).1 = .bl true by unfold closeD; split <;> (try split) <;> rfl])⟩

/-! ### boxes, stores -/
section
variable {S T : Store} {c : Cell} {k : Nat}
@[simp] theorem box_non : box .non S = (.non, S) := rfl
@[simp] theorem box_bl {b : Bool} : box (.bl b) S = (.bl b, S) := rfl
@[simp] theorem box_int {i : Int} : box (.int i) S = (.int i, S) := rfl
@[simp] theorem box_str {x : Str} : box (.str x) S = (.str x, S) := rfl
@[simp] theorem box_tup {ds : List D} : box (.tup ds) S = (.tup ds, S) := rfl
@[simp] theorem box_ref {n : Nat} : box (.ref n) S = (.ref n, S) := rfl
@[simp] theorem box_fro {ds : List D} : box (.fro ds) S = (.fro ds, S) := rfl
@[simp] theorem box_lst {ds : List D} : box (.lst ds) S = (.ref S.length, S ++ [.lst ds]) := rfl
@[simp] theorem boxL_nil : boxL [] S = ([], S) := rfl
@[simp] theorem boxL_cons {d : D} {ds : List D} : boxL (d :: ds) S = ((box d S).1 :: (boxL ds (box d S).2).1, (boxL ds (box d S).2).2) := rfl
theorem boxL_same {ds : List D} (h : ∀ d ∈ ds, d.cell? = none) : boxL ds S = (ds, S) := by
  induction ds with
  | nil => rfl
  | cons d ds ih =>
    have e : box d S = (d, S) := by unfold box; rw [h d (by simp)]
    rw [boxL_cons, e, ih fun x hx => h x (by simp [hx])]
@[simp] theorem getT : (S ++ T)[S.length + k]? = T[k]? := by
  rw [List.getElem?_append_right (by omega)]; congr 1; omega
@[simp] theorem getT0 : (S ++ T)[S.length]? = T[0]? := getT (k := 0)
@[simp] theorem setT : (S ++ T).set (S.length + k) c = S ++ T.set k c := by
  rw [List.set_append_right _ _ (by omega)]; congr 2; omega
@[simp] theorem setT0 : (S ++ T).set S.length c = S ++ T.set 0 c := setT (k := 0)
@[simp] theorem isLst_T {ds : List D} {n : Nat} (h : S[n]? = some (.lst ds)) : isLst S n = true := by unfold isLst; rw [h]
@[simp] theorem seqL_lst {ds : List D} : seqL S (.lst ds) = some ds := rfl
@[simp] theorem seqL_fro {ds : List D} : seqL S (.fro ds) = some ds := rfl
@[simp] theorem seqL_ref {n : Nat} : seqL S (.ref n) = match S[n]? with
    | some (.lst ds) => some ds
    | _ => none := rfl
@[simp] theorem seqL_tup {ds : List D} : seqL S (.tup ds) = none := rfl
@[simp] theorem seqL_int {i : Int} : seqL S (.int i) = none := rfl
@[simp] theorem seqL_str {i : Str} : seqL S (.str i) = none := rfl
@[simp] theorem seqL_non : seqL S .non = none := rfl
@[simp] theorem seqL_bl {i : Bool} : seqL S (.bl i) = none := rfl
@[simp] theorem seqW_lst {ds : List D} : seqW S (.lst ds) = some ds := rfl
@[simp] theorem seqW_ref {n : Nat} : seqW S (.ref n) = match S[n]? with
    | some (.lst ds) => some ds
    | _ => none := rfl
@[simp] theorem seqT_tup {ds : List D} : seqT (.tup ds) = some ds := rfl
@[simp] theorem seqT_ref {n : Nat} : seqT (.ref n) = none := rfl
@[simp] theorem seqT_lst {ds : List D} : seqT (.lst ds) = none := rfl
@[simp] theorem seqT_fro {ds : List D} : seqT (.fro ds) = none := rfl
@[simp] theorem seqA_tup {ds : List D} : seqA S (.tup ds) = some ds := rfl
@[simp] theorem seqA_lst {ds : List D} : seqA S (.lst ds) = some ds := rfl
@[simp] theorem seqA_fro {ds : List D} : seqA S (.fro ds) = some ds := rfl
@[simp] theorem seqA_ref {n : Nat} : seqA S (.ref n) = match S[n]? with
    | some (.lst ds) => some ds
    | _ => none := rfl
theorem getTs {n : Nat} {c2 : Cell} : (S.set n c2 ++ T)[S.length + k]? = T[k]? := by
  have := getT (S := S.set n c2) (T := T) (k := k); rwa [List.length_set] at this
theorem getTs0 {n : Nat} {c2 : Cell} : (S.set n c2 ++ T)[S.length]? = T[0]? := getTs (k := 0)
theorem setTs {n : Nat} {c2 : Cell} : (S.set n c2 ++ T).set (S.length + k) c = S.set n c2 ++ T.set k c := by
  have := setT (S := S.set n c2) (T := T) (k := k) (c := c); rwa [List.length_set] at this
theorem setTs0 {n : Nat} {c2 : Cell} : (S.set n c2 ++ T).set S.length c = S.set n c2 ++ T.set 0 c := setTs (k := 0)
theorem closeD_same {d : D} : closeD S d S = (d, S) := by
  have ht : S.take S.length = S := List.take_length
  unfold closeD
  split
  · split
    · rw [ht]
    · rename_i hl
      split
      · rename_i k
        split
        · rename_i c hk
          exact absurd (decide_eq_true (List.getElem?_eq_some_iff.mp hk).1) hl
        · rfl
      · rfl
  · rfl
theorem Clean.app (T : Store) : Clean S (S ++ T) := fun k hk => .inl (List.getElem?_append_left hk)
theorem closeD_app {d : D} (h : d.lo S.length = true) : closeD S d (S ++ T) = (d, S) := by
  unfold closeD
  rw [if_pos (Clean.app T), if_pos h]
  simp
theorem closeD_new {ds : List D} (h : loL S.length ds = true) (hk : T[k]? = some (.lst ds)) : closeD S (.ref (S.length + k)) (S ++ T) = (.lst ds, S) := by
  unfold closeD
  rw [if_pos (Clean.app T), if_neg (by unfold D.lo; simp)]
  dsimp only
  rw [getT, hk]
  dsimp only
  have hc : (Cell.lst ds).lo S.length = true := h
  rw [if_pos hc]
  simp [Cell.d]
theorem loL_of {n : Nat} {ds : List D} (h : ∀ d ∈ ds, d.lo n = true) : loL n ds = true := by
  induction ds with
  | nil => unfold loL; rfl
  | cons d ds ih => unfold loL; rw [h d (by simp), ih fun x hx => h x (by simp [hx])]; rfl
@[simp] theorem lo_int {n : Nat} {i : Int} : (D.int i).lo n = true := by unfold D.lo; rfl
@[simp] theorem lo_bl {n : Nat} {i : Bool} : (D.bl i).lo n = true := by unfold D.lo; rfl
@[simp] theorem lo_str {n : Nat} {i : Str} : (D.str i).lo n = true := by unfold D.lo; rfl
@[simp] theorem lo_non {n : Nat} : D.non.lo n = true := by unfold D.lo; rfl
@[simp] theorem lo_tup {n : Nat} {ds : List D} : (D.tup ds).lo n = loL n ds := by unfold D.lo; rfl
theorem lo_ints {n : Nat} {ns : List Int} : loL n (ns.map D.int) = true := loL_of fun d hd => by
  obtain ⟨i, _, rfl⟩ := List.mem_map.mp hd; simp
end

/-! ### loops -/
theorem for_run {b : Bind} {body : MS} (I : Nat → Env' → Store → Prop) {items : List D} {g : Guard} (hg : ∀ i ρ S, I i ρ S → gOk g S)
    (step : ∀ (i : Nat) (d : D) (ρ : Env') (S : Store), items[i]? = some d → I i ρ S → ∃ ρ1, b d ρ = some ρ1 ∧ ∃ ρ2 S2, (body ρ1 S = .next ρ2 S2 ∨ body ρ1 S = .cont ρ2 S2) ∧ I (i + 1) ρ2 S2) :
    ∀ {ρ : Env'} {S : Store}, I 0 ρ S → ∃ ρ' S', forD b body g items ρ S = .next ρ' S' ∧ I items.length ρ' S' := by
  have key : ∀ (rest : List D) (k : Nat) (ρ : Env') (S : Store), items.drop k = rest → I k ρ S → ∃ ρ' S', forD b body g rest ρ S = .next ρ' S' ∧ I (k + rest.length) ρ' S' := by
    intro rest
    induction rest with
    | nil =>
      intro k ρ S _ h
      exact ⟨ρ, S, by unfold forD; rw [if_pos (hg k ρ S h)], h⟩
    | cons d rest ih =>
      intro k ρ S hd h
      have hk : items[k]? = some d := by
        have := List.getElem?_drop (xs := items) (i := k) (j := 0)
        rw [hd] at this
        simpa using this.symm
      obtain ⟨ρ1, e1, ρ2, S2, e2, h2⟩ := step k d ρ S hk h
      have hd2 : items.drop (k + 1) = rest := by
        rw [← List.drop_drop, hd]; rfl
      obtain ⟨ρ', S', e3, h3⟩ := ih (k + 1) ρ2 S2 hd2 h2
      refine ⟨ρ', S', ?_, by rw [List.length_cons]; have e : k + (rest.length + 1) = k + 1 + rest.length := by omega
                             rw [e]; exact h3⟩
      unfold forD
      rw [if_pos (hg k ρ S h), e1]
      rcases e2 with e2 | e2 <;> (simp only [e2]; exact e3)
  intro ρ S h0
  have := key items 0 ρ S (by simp) h0
  simpa using this
theorem while_run {c : M Bool} {b : MS} (I : Nat → Env' → Store → Prop) (post : Env' → Store → Prop)
    (step : ∀ n ρ S, I n ρ S → (∃ S1, c ρ S = .ok false S1 ∧ post ρ S1) ∨ ∃ S1, c ρ S = .ok true S1 ∧ ∃ ρ2 S2, (b ρ S1 = .next ρ2 S2 ∨ b ρ S1 = .cont ρ2 S2) ∧ ∃ m, m < n ∧ I m ρ2 S2) :
    ∀ {n : Nat} {ρ : Env'} {S : Store}, I n ρ S → ∃ ρ' S', sWhile c b ρ S = .next ρ' S' ∧ post ρ' S' := by
  intro n
  induction n using Nat.strongRecOn with
  | _ n ih =>
    intro ρ S h
    rw [sWhile_eq]
    rcases step n ρ S h with ⟨S1, e, p⟩ | ⟨S1, e, ρ2, S2, e2, m, hm, h2⟩
    · exact ⟨ρ, S1, by rw [e, s_ok]; rfl, p⟩
    · obtain ⟨ρ', S', e3, p⟩ := ih m hm h2
      refine ⟨ρ', S', ?_, p⟩
      rw [e, s_ok, if_pos rfl]
      rcases e2 with e2 | e2 <;> (simp only [e2]; exact e3)

theorem comp_filter {b : Bind} {mt : M Bool} {me : M D} {g : Guard} {ρ0 : Env'} {S : Store} (p : D → Bool) (f : D → D) (hg : gOk g S) : ∀ {ds : List D},
    (∀ d ∈ ds, ∃ ρ1, b d ρ0 = some ρ1 ∧ mt ρ1 S = .ok (p d) S ∧ (p d = true → me ρ1 S = .ok (f d) S ∧ (f d).cell? = none)) → compL b mt me g ρ0 ds S = .ok ((ds.filter p).map f) S
  | [], _ => by unfold compL; rw [if_pos hg]; rfl
  | d :: ds, h => by
    obtain ⟨ρ1, e1, e2, e3⟩ := h d (by simp)
    have ih := comp_filter (me := me) (mt := mt) p f hg fun x hx => h x (List.mem_cons_of_mem _ hx)
    unfold compL
    rw [if_pos hg, e1]
    dsimp only
    rw [e2, bind_ok]
    cases hp : p d with
    | true =>
      obtain ⟨e4, e5⟩ := e3 hp
      have eb : box (f d) S = (f d, S) := by unfold box; rw [e5]
      rw [if_pos rfl, e4, bind_ok, eb, ih, bind_ok, List.filter_cons_of_pos hp, List.map_cons]
    | false =>
      rw [if_neg (by simp), ih, List.filter_cons_of_neg (by simp [hp])]
theorem comp_map {b : Bind} {me : M D} {g : Guard} {ρ0 : Env'} {S : Store} {ds : List D} (f : D → D) (hg : gOk g S)
    (h : ∀ d ∈ ds, ∃ ρ1, b d ρ0 = some ρ1 ∧ me ρ1 S = .ok (f d) S ∧ (f d).cell? = none) : compL b (mEndT true) me g ρ0 ds S = .ok (ds.map f) S := by
  have := comp_filter (mt := mEndT true) (me := me) (fun _ => true) f hg (ds := ds) fun d hd => by
    obtain ⟨ρ1, e1, e2, e3⟩ := h d hd
    exact ⟨ρ1, e1, rfl, fun _ => ⟨e2, e3⟩⟩
  rw [this, List.filter_eq_self.mpr (fun _ _ => rfl)]
theorem comp_eq {vs : List Nat} {b : Bind} {mi : M (List D × Guard)} {mt : M Bool} {me : M D} {ρ : Env'} {S S1 : Store} {items es : List D} {g : Guard} (h1 : mi ρ S = .ok (items, g) S1) (hl : items.length ≤ sizeLine) {S2 : Store} (h2 : compL b mt me g (wipeE ρ vs) items S1 = .ok es S2) :
    mComp vs b mi mt me ρ S = .ok (.lst es) S2 := by
  unfold mComp
  rw [h1, bind_ok]
  dsimp only
  rw [if_pos hl, h2]
  rfl

/-! ### equality -/
section
variable {S : Store} {d e : D} {ns ms : List Int}
theorem py_ints {k : Nat} : ∀ ns : List Int, (ns.map D.int).mapM (py S (k + 1)) = some (ns.map PyData.int)
  | [] => rfl
  | n :: ns => by
    rw [List.map_cons, List.mapM_cons, py_ints ns]
    rfl
theorem py_seqL {ds : List D} {ps : List PyData} {k : Nat} (h : seqL S d = some ds) (hp : ds.mapM (py S k) = some ps) : py S (k + 1) d = some (.list ps) := by
  unfold py
  cases d with
  | lst es => cases h; dsimp only; rw [hp]; rfl
  | fro es => cases h; dsimp only; rw [hp]; rfl
  | ref n =>
    rw [seqL_ref] at h
    dsimp only
    split at h
    · rename_i es hn
      cases h
      (try rw [hn])
      (try dsimp only)
      rw [hp]; rfl
    · cases h
  | _ => cases h
theorem eqvAll_ints : ∀ ns ms : List Int, PyData.eqvAll (ns.map PyData.int) (ms.map PyData.int) = decide (ns = ms)
  | [], [] => by simp [PyData.eqvAll]
  | [], _ :: _ => by simp [PyData.eqvAll]
  | _ :: _, [] => by simp [PyData.eqvAll]
  | n :: ns, m :: ms => by
    rw [List.map_cons, List.map_cons]
    unfold PyData.eqvAll
    rw [eqvAll_ints ns ms]
    unfold PyData.eqv
    by_cases h1 : n = m <;> by_cases h2 : ns = ms <;> simp [h1, h2]
theorem canLay_ints : ∀ ns : List Int, PyData.canLayAll0 (ns.map PyData.int) = true
  | [] => by unfold PyData.canLayAll0; rfl
  | n :: ns => by rw [List.map_cons]; unfold PyData.canLayAll0; rw [canLay_ints ns]; unfold PyData.canLay0; rfl
theorem depth_ints : ∀ ns : List Int, PyData.depthAll (ns.map PyData.int) = 0
  | [] => by unfold PyData.depthAll; rfl
  | n :: ns => by rw [List.map_cons]; unfold PyData.depthAll; rw [depth_ints ns]; unfold PyData.depth; rfl
theorem shaped_list {ns : List Int} : SeqAt.shaped (.list (ns.map PyData.int)) = true := by
  unfold SeqAt.shaped PyData.canLay0 PyData.depth
  rw [canLay_ints, depth_ints]
  rfl
theorem shaped_tuple {ns : List Int} : SeqAt.shaped (.tuple (ns.map PyData.int)) = true := by
  unfold SeqAt.shaped PyData.canLay0 PyData.depth
  rw [canLay_ints, depth_ints]
  rfl
@[simp] theorem eqD_int {i j : Int} : eqD S (.int i) (.int j) = some (decide (i = j)) := by
  have h : ∀ i : Int, SeqAt.shaped (.int i) = true := fun i => by unfold SeqAt.shaped PyData.canLay0 PyData.depth; rfl
  unfold eqD py
  dsimp only
  rw [if_pos ⟨h i, h j⟩]
  unfold PyData.eqv
  by_cases h : i = j <;> simp [h]
@[simp] theorem eqD_bl {i j : Bool} : eqD S (.bl i) (.bl j) = some (decide (i = j)) := by
  have h : ∀ i : Bool, SeqAt.shaped (.bool i) = true := fun i => by unfold SeqAt.shaped PyData.canLay0 PyData.depth; rfl
  unfold eqD py
  dsimp only
  rw [if_pos ⟨h i, h j⟩]
  unfold PyData.eqv
  cases i <;> cases j <;> rfl
theorem eqD_lists (h1 : seqL S d = some (ns.map D.int)) (h2 : seqL S e = some (ms.map D.int)) : eqD S d e = some (decide (ns = ms)) := by
  unfold eqD
  rw [py_seqL h1 (py_ints ns), py_seqL h2 (py_ints ms)]
  dsimp only
  rw [if_pos ⟨shaped_list, shaped_list⟩]
  unfold PyData.eqv
  rw [eqvAll_ints]
theorem eqD_tups : eqD S (.tup (ns.map D.int)) (.tup (ms.map D.int)) = some (decide (ns = ms)) := by
  have h : ∀ ns : List Int, py S 66 (.tup (ns.map D.int)) = some (.tuple (ns.map PyData.int)) := fun ns => by
    unfold py; dsimp only; rw [py_ints]; rfl
  unfold eqD
  rw [h, h]
  dsimp only
  rw [if_pos ⟨shaped_tuple, shaped_tuple⟩]
  unfold PyData.eqv
  rw [eqvAll_ints]
end
@[simp] theorem cmp_eq {d e : D} {S : Store} : cmpD .Eq d e S = match eqD S d e with
  | some b => some (.bl b)
  | none => none := by
  show eqC false d e S = _
  unfold eqC
  split <;> simp_all
@[simp] theorem cmp_ne {d e : D} {S : Store} : cmpD .NotEq d e S = match eqD S d e with
  | some b => some (.bl (!b))
  | none => none := by
  show eqC true d e S = _
  unfold eqC
  split <;> simp_all
@[simp] theorem cmp_lt {i j : Int} {S : Store} : cmpD .Lt (.int i) (.int j) S = some (.bl (decide (i < j))) := rfl
@[simp] theorem cmp_le {i j : Int} {S : Store} : cmpD .LtE (.int i) (.int j) S = some (.bl (decide (i ≤ j))) := rfl
@[simp] theorem cmp_gt {i j : Int} {S : Store} : cmpD .Gt (.int i) (.int j) S = some (.bl (decide (j < i))) := rfl
@[simp] theorem cmp_ge {i j : Int} {S : Store} : cmpD .GtE (.int i) (.int j) S = some (.bl (decide (j ≤ i))) := rfl
@[simp] theorem cmp_is {d e : D} {S : Store} : cmpD .Is d e S = isD false d e S := rfl
@[simp] theorem cmp_isnot {d e : D} {S : Store} : cmpD .IsNot d e S = isD true d e S := rfl
@[simp] theorem cmp_in {d e : D} {S : Store} : cmpD .In d e S = inD false d e S := rfl
@[simp] theorem cmp_notin {d e : D} {S : Store} : cmpD .NotIn d e S = inD true d e S := rfl
@[simp] theorem bin_add {i j : Int} {S : Store} : binD .Add (.int i) (.int j) S = some (.int (i + j)) := rfl
@[simp] theorem bin_sub {d e : D} {S : Store} : binD .Sub d e S = intC (fun _ _ => True) (fun i j => i - j) d e S := rfl
@[simp] theorem bin_mod {d e : D} {S : Store} : binD .Mod d e S = intC (fun _ j => 0 < j) (fun i j => i % j) d e S := rfl
@[simp] theorem bin_div {d e : D} {S : Store} : binD .FloorDiv d e S = intC (fun _ j => 0 < j ∧ j.natAbs.log2 < 9000) (fun i j => i / j) d e S := rfl
@[simp] theorem bin_pow {d e : D} {S : Store} : binD .Pow d e S = intC (fun i j => 0 ≤ j ∧ j ≤ 1000000 ∧ i.natAbs < 2 ^ 64) (fun i j => i ^ j.toNat) d e S := rfl
@[simp] theorem bin_shl {d e : D} {S : Store} : binD .LShift d e S = intC (fun i j => 0 ≤ j ∧ j ≤ 1000000 ∧ i.natAbs < 2 ^ 64) (fun i j => i * 2 ^ j.toNat) d e S := rfl
@[simp] theorem bin_shr {d e : D} {S : Store} : binD .RShift d e S = intC (fun _ j => 0 ≤ j) (fun i j => i / 2 ^ j.toNat) d e S := rfl
@[simp] theorem bin_and {d e : D} {S : Store} : binD .BitAnd d e S = intC (fun _ _ => True) Builtin.bitAnd d e S := rfl
@[simp] theorem bin_or {d e : D} {S : Store} : binD .BitOr d e S = intC (fun _ _ => True) Builtin.bitOr d e S := rfl
theorem bin_mul {i j : Int} {S : Store} (h : i.natAbs.log2 + j.natAbs.log2 < 1000000) : binD .Mult (.int i) (.int j) S = some (.int (i * j)) := by
  show (if i.natAbs.log2 + j.natAbs.log2 < 1000000 then some (D.int (i * j)) else none) = _
  exact if_pos h
theorem bin_cat {d e : D} {xs ys : List D} {S : Store} (h1 : seqW S d = some xs) (h2 : seqW S e = some ys) (h : xs.length + ys.length ≤ sizeLine) : binD .Add d e S = some (.lst (xs ++ ys)) := by
  show addD d e S = _
  unfold addD
  cases d <;> cases e <;> first | (cases h1; done) | (cases h2; done) | (dsimp only; rw [h1, h2]; exact if_pos h)
theorem beq_tt : (true == true) = true := rfl
theorem beq_ff : (false == false) = true := rfl
theorem beq_tf : (true == false) = false := rfl
theorem beq_ft : (false == true) = false := rfl
@[simp] theorem isD_bb {n a b : Bool} {S : Store} : isD n (.bl a) (.bl b) S = some (.bl (if n then !(a == b) else a == b)) := rfl
@[simp] theorem isD_nn {n : Bool} {S : Store} : isD n .non .non S = some (.bl (!n)) := rfl
@[simp] theorem isD_in {n : Bool} {i : Int} {S : Store} : isD n (.int i) .non S = some (.bl n) := rfl
@[simp] theorem isD_tn {n : Bool} {i : List D} {S : Store} : isD n (.tup i) .non S = some (.bl n) := rfl
@[simp] theorem isD_sn {n : Bool} {i : Str} {S : Store} : isD n (.str i) .non S = some (.bl n) := rfl
@[simp] theorem isD_rn {n : Bool} {i : Nat} {S : Store} : isD n (.ref i) .non S = some (.bl n) := rfl
@[simp] theorem isi_non {T : Ty} {S : Store} : isiD T .non S = some (.bl false) := rfl
@[simp] theorem isi_bl {T : Ty} {b : Bool} {S : Store} : isiD T (.bl b) S = some (.bl (decide (T = .int ∨ T = .bool))) := rfl
@[simp] theorem isi_int {T : Ty} {b : Int} {S : Store} : isiD T (.int b) S = some (.bl (decide (T = .int))) := rfl
@[simp] theorem isi_str {T : Ty} {b : Str} {S : Store} : isiD T (.str b) S = some (.bl (decide (T = .str))) := rfl
@[simp] theorem isi_tup {T : Ty} {b : List D} {S : Store} : isiD T (.tup b) S = some (.bl (decide (T = .tuple))) := rfl
@[simp] theorem isi_ref {T : Ty} {n : Nat} {S : Store} : isiD T (.ref n) S = match seqL S (.ref n) with
    | some _ => some (.bl (decide (T = .list)))
    | none => none := rfl
theorem range_at {lo : Int} {n i : Nat} {d : D} (h : (rangeL lo n)[i]? = some d) : d = .int (lo + (i : Int)) ∧ i < n := by
  unfold rangeL at h
  rw [List.getElem?_map] at h
  cases q : (List.range n)[i]? with
  | none => rw [q] at h; cases h
  | some m =>
    rw [q] at h
    cases h
    have := List.getElem?_eq_some_iff.mp q
    obtain ⟨h1, h2⟩ := this
    simp at h1 h2
    subst h2
    exact ⟨rfl, h1⟩
theorem range_len {lo : Int} {n : Nat} : (rangeL lo n).length = n := by simp [rangeL]
@[simp] theorem items_tup {ds : List D} {S : Store} : itemsD S (.tup ds) = some (ds, []) := rfl
@[simp] theorem items_lst {ds : List D} {S : Store} : itemsD S (.lst ds) = some (ds, []) := rfl
@[simp] theorem items_fro {ds : List D} {S : Store} : itemsD S (.fro ds) = some (ds, []) := rfl
@[simp] theorem items_ref {n : Nat} {S : Store} : itemsD S (.ref n) = match S[n]? with
    | some (.lst ds) => some (ds, [(n, ds)])
    | _ => none := rfl
theorem cutL_from {α : Type} {xs : List α} {k : Nat} (h : k ≤ xs.length) : cutL xs (some (k : Int)) none = xs.drop k := by
  unfold cutL
  rw [HT.sIx_nat, HT.sIx_none, Nat.min_eq_left h]
  exact List.take_of_length_le (by simp)
theorem cutL_to {α : Type} {xs : List α} {k : Nat} : cutL xs none (some (k : Int)) = xs.take k := by
  unfold cutL
  rw [HT.sIx_nat, HT.sIx_none, List.drop_zero, Nat.sub_zero]
  rcases Nat.le_total k xs.length with h | h
  · rw [Nat.min_eq_left h]
  · rw [Nat.min_eq_right h, List.take_of_length_le h, List.take_of_length_le (Nat.le_refl _)]
theorem cut_lst {d : D} {ds : List D} {lo hi : Option Int} {S : Store} (h : seqL S d = some ds) : cutD d lo hi S = some (.lst (cutL ds lo hi)) := by
  unfold cutD
  cases d <;> first | (cases h; rfl) | (cases h; done) | (dsimp only; rw [h])
/-- a store of which one cell of ints is written -/
theorem closeD_set {S S' T : Store} {d : D} {n : Nat} {ds : List D} (hS : S' = S.set n (.lst ds)) (hl : loL S.length ds = true) (h : d.lo S.length = true) : closeD S d (S' ++ T) = (d, S') := by
  have hlen : S'.length = S.length := by rw [hS, List.length_set]
  have hc : Clean S (S' ++ T) := fun k hk => by
    rw [List.getElem?_append_left (by omega), hS, List.getElem?_set]
    by_cases e : n = k
    · rw [if_pos e, if_pos (by omega)]; exact .inr ⟨_, rfl, hl⟩
    · rw [if_neg e]; exact .inl rfl
  unfold closeD
  rw [if_pos hc, if_pos h, List.take_append_of_le_length (by omega), List.take_of_length_le (by omega)]
theorem closeD_set0 {S S' : Store} {d : D} {n : Nat} {ds : List D} (hS : S' = S.set n (.lst ds)) (hl : loL S.length ds = true) (h : d.lo S.length = true) : closeD S d S' = (d, S') := by
  have := closeD_set (T := []) hS hl h
  rwa [List.append_nil] at this
theorem closeD_nil {d : D} {T : Store} (h : d.lo 0 = true) : closeD [] d T = (d, []) := closeD_app (S := []) h
theorem blt_dm {i j : Int} {S : Store} (h : 0 < j ∧ j < 1073741824) : bltD .divmod [.int i, .int j] S = some (.tup [.int (i / j), .int (i % j)]) := by
  unfold bltD divmodD
  dsimp only
  exact if_pos ⟨h.1, h.2⟩
theorem blt_lenA {d : D} {ds : List D} {S : Store} (h : seqA S d = some ds) (hs : ∀ x, d ≠ .str x) : bltD .len [d] S = some (.int ds.length) := by
  show lenD d S = _
  unfold lenD
  split
  · exact absurd rfl (hs _)
  · rw [h]
theorem blt_listA {d : D} {ds : List D} {S : Store} (h : seqA S d = some ds) : bltD .list [d] S = some (.lst ds) := by
  show listD d S = _
  unfold listD
  rw [h]
theorem blt_tupleA {d : D} {ds : List D} {S : Store} (h : seqA S d = some ds) : bltD .tuple [d] S = some (.tup ds) := by
  show tupleD d S = _
  unfold tupleD
  rw [h]
@[simp] theorem tru_bl {b : Bool} {S : Store} : truD S (.bl b) = some b := rfl
@[simp] theorem tru_int {i : Int} {S : Store} : truD S (.int i) = some (i != 0) := rfl
@[simp] theorem tru_non {S : Store} : truD S .non = some false := rfl
/-- of ints in a list of ints -/
theorem in_ints {neg : Bool} {i : Int} {d : D} {ns : List Int} {S : Store} (h : seqA S d = some (ns.map D.int)) : inD neg (.int i) d S = some (.bl (if neg then !decide (i ∈ ns) else decide (i ∈ ns))) := by
  have hf : ∀ ns : List Int, (ns.map D.int).mapM flatD = some (ns.map V.int) := fun ns => by
    induction ns with
    | nil => rfl
    | cons n ns ih => rw [List.map_cons, List.mapM_cons, ih]; rfl
  have hi : ∀ ns : List Int, inV (.int i) (ns.map V.int) = decide (i ∈ ns) := fun ns => by
    unfold inV
    induction ns with
    | nil => simp
    | cons n ns ih =>
      rw [List.map_cons, List.any_cons, ih]
      show ((n == i) || _) = _
      by_cases h : n = i
      · simp [h]
      · have h' : ¬ i = n := fun e => h e.symm
        simp [h, h']
  unfold inD
  cases d <;> first
    | (simp only [flatD, h, hf, hi])
    | cases h
end Ev
/-! Ev12: xs[i] = e, chains, enumerate, sorted of tuples, and more methods. -/
namespace Ev
open PySem PySem.Spec PyProof.Rows L2
section
variable {X : Cx} {W : WX}

/-! ### o[i] = e -/
def sSub (me mo mi : M D) : MS := fun ρ S => (me ρ S).s ρ fun d S1 => (mo ρ (box d S1).2).s ρ fun o S2 => (mi ρ S2).s ρ fun i S3 => match o, i with
  | .ref n, .int k => match S3[n]? with
    | some (.lst ds) => match ixN ds.length k with
      | some j => .next ρ (S3.set n (.lst (ds.set j (box d S1).1)))
      | none => .fail
    | _ => .fail
  | _, _ => .fail
theorem evs_sub1 {o i e : Expr} {pos pos' : Pos} {me mo mi : M D} (he : EvE X W e me) (ho : EvE X W o mo) (hi : EvE X W i mi) (hs : notComp e = true) (hw : swappedStores [.Subscript o i pos'] e X.env = pure none)
    (ha : ∀ v, assign (.Subscript o i pos') X.env v = (do
      let ov ← holding [v] (eval o X.env)
      let iv ← holding [v, ov] (eval i X.env)
      standAt pos'
      holding [v, ov, iv] (setItem ov iv v)
      release [v, ov, iv] [])) : EvS X W (.Assign [.Subscript o i pos'] e pos) (sSub me mo mi) := by
  have hss : swapsWithSole [.Subscript o i pos'] e pos.line X.env = pure false := swaps_of (t := some (.Subscript o i pos')) (l := pos.line) (env := X.env) hs
  refine PS.imp (ps_asg he.pe (pg_sub ho.pe hi.pe set_list ha) hss hw rfl) fun E σ H ⟨μ, S, ρ, R, En, G⟩ => ?_
  unfold sSub at G
  refine tms1 R En G fun d S1 v μ1 H1 e1 st x R1 E1 G1 => ?_
  obtain ⟨μ1', st1, r1, ext, em⟩ := (st.box x)
  have R1' := st1.rel
  have E1' : EnvOk X.K μ1' H1 ρ σ := by rw [em]; exact E1.more R1
  have Gb : GoodS X.K X.mg W E μ1' H1 ((mo ρ (box d S1).2).s ρ fun o S2 => (mi ρ S2).s ρ fun i S3 => match o, i with
      | .ref n, .int k => match S3[n]? with
        | some (.lst ds) => match ixN ds.length k with
          | some j => SOut.next ρ (S3.set n (.lst (ds.set j (box d S1).1)))
          | none => .fail
        | _ => .fail
      | _, _ => .fail) := by
    have G0 := G
    rw [e1, s_ok] at G0
    exact GoodS.back R st1 G0
  refine tms1 R1' E1' Gb fun o' S2 w μ2 H2 e2 st2 x2 R2 E2 G2 => ?_
  refine tms1 R2 E2 G2 fun i' S3 y μ3 H3 e3 st3 x3 R3 E3 G3 => ?_
  split at G3
  · rename_i n k
    split at G3
    · rename_i ds hn
      split at G3
      · rename_i j hj
        obtain ⟨a, vs, e4, ha4, hH, rl⟩ := sql_at R3 hn (ResOk.plain ((x2.step R2 st3).rep rfl) : ResOk X.K X.mg μ3 H3 H3 (.ref n) w)
        refine ⟨a, vs, k, j, e4, rep_int x3, hH, by rw [← rl.length]; exact hj, ?_⟩
        have rd := st3.rep R2 (st2.rep R1' r1)
        have stw := Step.write (K := X.K) (mg := X.mg) (n := n) (C := 0) (dx := 0) (c := .lst (ds.set j (box d S1).1)) (vs := vs.set j v) R3 ha4 trivial trivial (repL_set j rl rd)
        exact G3 σ μ3 _ stw (E3.step R3 stw)
      · exact G3.elim
    · exact G3.elim
  · exact G3.elim

/-! ### enumerate -/
theorem meets_enumB {v : Value} {o : Obj} {H : Heap → Prop} (B : Begins v o H) :
    Meets (Builtin.«enumerate.__new__» ⟨[.type "enumerate", v], []⟩) (fun _ R s => H s.heap ∧
      R (.ok (.ret (.ref (s.heap.push o).objs.size))) { s with heap := (s.heap.push o).push { cls := .type "enumerate", data := .fields #[.none, .bool false, .ref s.heap.objs.size, rawInt 0, .none, .none] } }) :=
  .of_wp fun prog w A R s h => by
    obtain ⟨hp, g, d, tk, os⟩ := s; obtain ⟨h1, h⟩ := h
    have hsub := sub_enumerate
    have q1 : ∀ {A' : Around} {E : Value → Shared → Prop} {Q : Value → Shared → Prop}, Q (.ref hp.objs.size) ⟨hp.push o, g, d, tk, os⟩ → wpAny (model prog w) A' (pyIter v) Q E ⟨hp, g, d, tk, os⟩ :=
      fun q => B.iter prog w _ _ ⟨hp, g, d, tk, os⟩ _ h1 q
    wp_walk using q1
    refine wpAny_stack_any fun st => wpAny_pure ?_
    split
    · rename_i c _ _ _ _ _
      cases (c == Value.type "enumerate") <;> (wp_walk using q1; exact ⟨_, rfl, h⟩)
    · wp_walk using q1
      exact ⟨_, rfl, h⟩
theorem enum_tup {prog : Program} {w : World} {A : Around} {E : Value → Shared → Prop} {s : Shared} {t : Addr} {items : Array Value} {Q : Value → Shared → Prop} (ht : s.heap.IsTuple t items)
    (h : ∀ h', IsEnum h' (s.heap.objs.size + 1) s.heap.objs.size 0 .none → h'.IsTupleIter s.heap.objs.size t 0 → (∀ b o, s.heap.get? b = some o → h'.get? b = some o) → Q (.ref (s.heap.objs.size + 1)) { s with heap := h' }) :
    wpAny (model prog w) A (call (.type "enumerate") [.ref t]) Q E s := by
  have B := begins_tuple t items
  refine callType_new F.called_enumerate (by decide) (F.typeCall_enumerate_1 _) (F.newCall_enumerate_1 _) (fun obj => F.args_object_init_2 obj _) F.entry_enumerate_new (meets_enumB B) ⟨ht, ?_⟩
  have e1 : (s.heap.push { cls := .type "tuple_iterator", data := .fields #[.ref t, .int 0 0] }).objs.size = s.heap.objs.size + 1 := Heap.size_push ..
  show _ ∧ _
  rw [e1]
  have he : IsEnum ((s.heap.push { cls := .type "tuple_iterator", data := .fields #[.ref t, .int 0 0] }).push
      { cls := .type "enumerate", data := .fields #[.none, .bool false, .ref s.heap.objs.size, rawInt 0, .none, .none] }) (s.heap.objs.size + 1) s.heap.objs.size 0 .none := by
    have e2 := Heap.get?_push_size (s.heap.push { cls := .type "tuple_iterator", data := .fields #[.ref t, .int 0 0] })
      (o := { cls := .type "enumerate", data := .fields #[.none, .bool false, .ref s.heap.objs.size, rawInt 0, .none, .none] }) rfl
    rw [e1] at e2; exact e2
  exact ⟨⟨_, he, rfl⟩, h _ he ⟨_, Heap.get?_push_of_some _ (Heap.get?_push_size _ rfl), rfl, rfl⟩ fun b o x => Heap.get?_push_of_some _ (Heap.get?_push_of_some _ x)⟩
/-- the tuple at a, each item in a new pair -/
def Iet (K : PySem.W.Frag) (a : Addr) : It :=
  ⟨fun i H => ∃ (xs : List V) (x : V), SqT K H a xs ∧ xs[i]? = some x,
    fun i H v H' => ∃ T x, v = .ref T ∧ H T = none ∧ H' = upd H T (.tup [.int (i : Nat), x]) ∧ ∀ xs, SqT K H a xs → xs[i]? = some x,
    fun i H => ∃ xs : List V, SqT K H a xs ∧ xs.length ≤ i⟩
theorem turn_enumT {P : Program} {w : World} {K : PySem.W.Frag} {elts : List Expr} {kk : Nat} {tpos : Pos} (a e it : Addr) (hai : a ≠ it) (hae : e ≠ a) :
    Turn P w K (.Tuple elts kk tpos) (Iet K a) [e, it] e (fun i h => (∃ old, IsEnum h e it ((i : Nat) : Int) old) ∧ h.IsTupleIter it a i ∧ e ≠ it) where
  mem := by simp
  obj := fun i h st b hb => by
    obtain ⟨⟨old, he⟩, ⟨o, ho, hc, hd⟩, _⟩ := st
    have e' : b = e ∨ b = it := by simpa using hb
    rcases e' with z | z
    · rw [z]; exact ⟨_, he, fun v q => nomatch q⟩
    · rw [z]; exact ⟨o, ho, fun v q => by rw [hd] at q; cases q⟩
  keep := fun i h h' st k => by
    obtain ⟨⟨old, he⟩, hi, hne⟩ := st
    exact ⟨⟨old, k e (by simp) _ he⟩, hi.at fun o q => k it (by simp) o q, hne⟩
  item := by
    intro X hP hw hK hc i pins s σ H E I hf st hg
    subst hP hw hK
    obtain ⟨⟨old, he⟩, hit, hne⟩ := st
    obtain ⟨xs, x, hq, hx⟩ := hg
    obtain ⟨its, rv, p, hz⟩ := I.tuple hq
    obtain ⟨u, hu, ru⟩ := rv.get hx
    have hel : e < s.heap.objs.size := Heap.lt_size he
    have hil : it < s.heap.objs.size := by obtain ⟨_, q, _⟩ := hit; exact Heap.lt_size q
    have Dr := Draws.tuple (prog := X.prog) (w := X.w) (A := X.A.in1) (I.ok.hd hc) it a hai its.toArray
    have hul := (List.getElem?_eq_some_iff.mp hu).1
    refine wpAny_pyNext_enum_itemD Dr he ⟨hit, p⟩ (by simpa using hul) hne (by simp; exact ⟨hne, hae⟩) fun y h' tk hy ho hst' hT hsz hk => ?_
    have ey : y = u := by
      have e1 : its.toArray[i]? = some u := by simpa using hu
      rw [e1] at hy; exact (Option.some.inj hy).symm
    subst ey
    refine ⟨_, rfl, wpAny_letOwnedTupleGo_enum (s := { s with heap := h', toks := tk + 1 }) ho fun h'' he' sb => ?_⟩
    have hT2 : h''.get? s.heap.objs.size = some { cls := .type "tuple", data := .seq #[.int i tk, y] } := (sb.2 _ (Nat.ne_of_gt hel)).trans hT
    have new : ObjOk X.prog X.w (upd H s.heap.objs.size (.tup [.int (i : Nat), x])) h'' s.heap.objs.size (.tup [.int (i : Nat), x]) :=
      ⟨by show 2 ≤ sizeLine; decide, [.int i tk, y], .cons ⟨_, rfl⟩ (.cons ru .nil), ⟨_, hT2, rfl, _, rfl⟩⟩
    have I1 : Inv X pins σ (upd H s.heap.objs.size (.tup [.int (i : Nat), x])) { s with heap := h'', toks := tk + 1 } :=
      I.turnedNew (ch := [e, it]) (fun b ob hb q => (sb.2 b (fun z => hb (by simp [z]))).trans (hk b ob (fun z => hb (by simp [z])) (fun z => hb (by simp [z])) q)) hf (Nat.le_refl _) new
    refine ⟨.ref s.heap.objs.size, _, I1, rfl, ⟨_, x, rfl, I.hok.fresh (Nat.le_refl _), rfl, fun ys hy2 => by rw [I.tuple_inj hy2 hq]; exact hx⟩, ⟨⟨y, ?_⟩, hst'.1.at fun o q => (sb.2 it (Ne.symm hne)).trans q, hne⟩, fun b hb => ?_⟩
    · have e1 : ((i + 1 : Nat) : Int) = (i : Int) + 1 := by omega
      rw [e1]; exact he'
    · have hb' : b < s.heap.objs.size := by
        have e' : b = e ∨ b = it := by simpa using hb
        rcases e' with z | z
        · rw [z]; exact hel
        · rw [z]; exact hil
      rw [upd_ne (Nat.ne_of_lt hb')]
      exact (hf b hb).1
  done := by
    intro X hP hw hK hc i pins s σ H E I hf st hg
    subst hP hw hK
    obtain ⟨⟨old, he⟩, hit, hne⟩ := st
    obtain ⟨xs, hq, hx⟩ := hg
    obtain ⟨its, rv, p, hz⟩ := I.tuple hq
    obtain ⟨f0, f1, f2, f3, f4, f5⟩ := hf it (by simp)
    have hl := rv.length
    have hT : s.TypeIs (.ref e) "enumerate" := ⟨_, he, rfl⟩
    unfold pyNext
    refine wpAny_bind (wpAny_attempt (wpAny_callSpecial?_slot (name := Str.ofString "__next__") hT F.slot_enumerate_next
      (wpAny_call_entry F.slot_enumerate_next hT F.entry_enumerate_next ?_ (F.args_enumerate_next_1 _))))
    show wpAny _ _ (field (.ref e) 2 >>= _) _ _ _
    refine wpAny_bind (wpAny_field he rfl (x := .ref it) rfl ?_)
    refine wpAny_bind (wpAny_nextOf_tuple_end (I.ok.hd hc) hit p (by simp; omega) fun h' x he' hx' => ?_)
    obtain ⟨o, ho, hc2⟩ := hx'
    refine wpAny_bind (wpAny_isInstance (T := "StopIteration") (b := true) ⟨o, ho, hc2⟩ isSubtype_stop ?_)
    exact wpAny_pure ⟨rfl, I.turned (t' := s.toks) (fun b o hb q => he' b o hb q) f0 f1 f3 f4 f5⟩
  self := fun A i s Q E st h => let ⟨⟨_, he⟩, _⟩ := st; wpAny_pyIter_enum he h
def iEnumA (K : PySem.W.Frag) (ta : TA) : TI := fun σ H R => ta σ H fun vs H1 => ∃ a xs, vs = [.ref a] ∧ ((SqL K H1 a xs ∧ R (Ite K a) H1) ∨ (SqT K H1 a xs ∧ R (Iet K a) H1))
theorem pi_enumA {e : Expr} {ta : TA} {p pos tpos : Pos} {elts : List Expr} {kk : Nat} (hg : Gl X "enumerate") (hm : X.mg "enumerate" = none) (ha : PA X [e] ta) (hs : starEach [e] X.env = [(false, eval e X.env)]) :
    PI X (.Tuple elts kk tpos) (.Call (.Name "enumerate" p) [e] [] pos) (iEnumA X.K ta) := by
  refine ⟨fun pins s σ H R I h => ?_⟩
  refine Call_ (ld_blt I hg hm boot_enumerate (PyProof.Rows.callWith_type1 (thn (ha.run pos pins s σ H _ I h) fun us s1 ⟨vs, H1, I1, r1, q1⟩ => ?_) hs rfl))
  obtain ⟨a, xs, ex, q⟩ := q1
  subst ex
  cases r1 with
  | cons r rr =>
    cases rr
    cases r
    have fresh : ∀ b, b ∈ [s1.heap.objs.size + 1, s1.heap.objs.size] → FpOk X pins H1 b := fun b hb => by
      have hle : s1.heap.objs.size ≤ b := by
        have e' : b = s1.heap.objs.size + 1 ∨ b = s1.heap.objs.size := by simpa using hb
        rcases e' with z | z <;> (rw [z]; omega)
      exact I1.fpOk hle (I1.hok.fresh hle)
    rcases q with ⟨hq, q⟩ | ⟨hq, q⟩
    · obtain ⟨its, rv, p', hz⟩ := I1.list hq
      refine call_enumerate_list p'.isList fun h' he hit hsz hk => wpAny_pyIter_enum he ?_
      have I2 : Inv X pins σ H1 { s1 with heap := h' } := I1.kept (t' := s1.toks) hk
      exact ⟨s1.heap.objs.size + 1, [s1.heap.objs.size + 1, s1.heap.objs.size], _, _, H1, rfl, I2, turn_enum a (s1.heap.objs.size + 1) s1.heap.objs.size, ⟨⟨.none, he⟩, hit, Nat.succ_ne_self _⟩, fresh, q⟩
    · obtain ⟨its, rv, p', hz⟩ := I1.tuple hq
      have hlt : a < s1.heap.objs.size := by obtain ⟨o, ho, _⟩ := id p'; exact Heap.lt_size ho
      refine enum_tup p' fun h' he hit hk => wpAny_pyIter_enum he ?_
      have I2 : Inv X pins σ H1 { s1 with heap := h' } := I1.kept (t' := s1.toks) hk
      exact ⟨s1.heap.objs.size + 1, [s1.heap.objs.size + 1, s1.heap.objs.size], _, _, H1, rfl, I2, turn_enumT a (s1.heap.objs.size + 1) s1.heap.objs.size (Nat.ne_of_lt hlt) (Nat.ne_of_gt (Nat.lt_succ_of_lt hlt)), ⟨⟨.none, he⟩, hit, Nat.succ_ne_self _⟩, fresh, q⟩
/-- the items with their places -/
def enumL : Nat → List D → List D
  | _, [] => []
  | k, d :: ds => .tup [.int (k : Nat), d] :: enumL (k + 1) ds
theorem enumL_len : ∀ (k : Nat) (ds : List D), (enumL k ds).length = ds.length
  | _, [] => rfl
  | k, _ :: ds => by unfold enumL; rw [List.length_cons, enumL_len (k + 1) ds, List.length_cons]
theorem enumL_at : ∀ (k : Nat) (ds : List D) (i : Nat), (enumL k ds)[i]? = (ds[i]?).map fun d => .tup [.int (((k + i : Nat) : Int)), d]
  | _, [], i => by unfold enumL; simp
  | k, d :: ds, 0 => by unfold enumL; simp
  | k, d :: ds, i + 1 => by
    unfold enumL
    rw [List.getElem?_cons_succ, List.getElem?_cons_succ, enumL_at (k + 1) ds i]
    have e : k + 1 + i = k + (i + 1) := by omega
    rw [e]
def mEnum (m : M D) : M (List D × Guard) := fun ρ S => (m ρ S).bind fun d S1 => match d with
  | .tup ds => .ok (enumL 0 ds, []) S1
  | .lst ds => .ok (enumL 0 ds, []) S1
  | .fro ds => .ok (enumL 0 ds, []) S1
  | .ref n => match S1[n]? with
    | some (.lst ds) => .ok (enumL 0 ds, [(n, ds)]) S1
    | _ => .fail
  | _ => .fail
section
variable {K : PySem.W.Frag} {mg : Str → Option Value} {μ : List Addr} {H0 H : Hp} {S : Store}
theorem rep_pair {T : Addr} {i : Nat} {d : D} {y : V} {S : Store} (R : Rel K mg μ S H) (hT : H T = none) (r : Rep K μ H d y) : Rep K μ (upd H T (.tup [.int (i : Nat), y])) (.tup [.int (i : Nat), d]) (.ref T) := by
  have st := Step.fresh (o := .tup [.int (i : Nat), y]) R hT
  unfold Rep
  exact ⟨T, _, rfl, .inl (.inl upd_same), RepL.cons (by unfold Rep; rfl) (RepL.cons (st.rep R r) RepL.nil)⟩
theorem iet_ok {ds : List D} {v : V} (R : Rel K mg μ S H) (x : ResOk K mg μ H0 H (.tup ds) v) : ∃ a, v = .ref a ∧ (∃ xs, SqT K H a xs) ∧ ItOk K mg (Iet K a) (enumL 0 ds) [] μ S H := by
  have x := x.rep rfl
  unfold Rep at x
  obtain ⟨a, vs, rfl, hq, l⟩ := x
  refine ⟨a, rfl, ⟨vs, hq⟩, fun μ' S' H' st _ => ?_⟩
  have rp : Rep K μ H (.tup ds) (.ref a) := by unfold Rep; exact ⟨a, vs, rfl, hq, l⟩
  have x2 := st.rep R rp
  unfold Rep at x2
  obtain ⟨a', vs', e, hq', l'⟩ := x2
  cases e
  have R' := st.rel
  rw [enumL_len]
  refine ⟨fun i hi => ?_, ⟨vs', hq', by rw [← l'.length]; exact Nat.le_refl _⟩, fun i y H2 hi hy => ?_⟩
  · obtain ⟨w, hw, _⟩ := repL_get l' (List.getElem?_eq_getElem hi)
    exact ⟨vs', w, hq', hw⟩
  · obtain ⟨T, x, rfl, hT, rfl, hall⟩ := hy
    obtain ⟨w, hw, rw'⟩ := repL_get l' (List.getElem?_eq_getElem hi)
    have := hall vs' hq'
    rw [hw] at this
    cases this
    refine ⟨Ext.fresh hT, .tup [.int (i : Nat), ds[i]], ?_, rep_pair R' hT rw'⟩
    rw [enumL_at, List.getElem?_eq_getElem hi]
    simp
theorem iel_ok {a : Addr} {items : List D} {g : Guard} (h : ItOk K mg (Itl K a) items g μ S H) : ItOk K mg (Ite K a) (enumL 0 items) g μ S H := by
  intro μ' S' H' st hg
  obtain ⟨q1, q2, q3⟩ := h μ' S' H' st hg
  rw [enumL_len]
  refine ⟨fun i hi => q1 i hi, q2, fun i y H2 hi hy => ?_⟩
  obtain ⟨T, x, rfl, hT, rfl, hall⟩ := hy
  obtain ⟨_, d, hd, r⟩ := q3 i x H' hi ⟨rfl, hall⟩
  refine ⟨Ext.fresh hT, .tup [.int (i : Nat), d], ?_, rep_pair st.rel hT r⟩
  rw [enumL_at, hd]
  simp
end
theorem evi_enum {e : Expr} {m : M D} {p pos tpos : Pos} {elts : List Expr} {kk : Nat} (hg : Gl X "enumerate") (hm : X.mg "enumerate" = none) (he : EvE X W e m) (hs : notStar e = true) :
    EvI X W (.Tuple elts kk tpos) (.Call (.Name "enumerate" p) [e] [] pos) (mEnum m) := by
  refine PI.imp (pi_enumA hg hm (pa_one he hs) (star_of hs)) fun σ H R ⟨μ, S, ρ, Re, E, F, q⟩ => ?_
  unfold mEnum at F q
  refine tm1 Re E F fun d S1 v μ1 H1 e1 st x R1 E1 F1 => ?_
  have goL : ∀ (ds : List D) (g : Guard), itemsD S1 d = some (ds, g) → seqT d = none → (∀ z, d ≠ .str z) → ((mEnum m ρ S) = .ok (enumL 0 ds, g) S1) → ∃ a xs, [v] = [V.ref a] ∧ ((SqL X.K H1 a xs ∧ R (Ite X.K a) H1) ∨ (SqT X.K H1 a xs ∧ R (Iet X.K a) H1)) := by
    intro ds g h1 h2 h3 h4
    obtain ⟨a, rfl, ⟨xs, hx⟩, hI⟩ := itl_ok R1 x h1 h2 h3
    exact ⟨a, xs, rfl, .inl ⟨hx, q _ S1 μ1 H1 _ h4 st (iel_ok hI)⟩⟩
  have em : ∀ r, ((Out.ok d S1).bind fun d S1 => match d with
      | .tup ds => Out.ok (enumL 0 ds, []) S1
      | .lst ds => .ok (enumL 0 ds, []) S1
      | .fro ds => .ok (enumL 0 ds, []) S1
      | .ref n => match S1[n]? with
        | some (.lst ds) => .ok (enumL 0 ds, [(n, ds)]) S1
        | _ => .fail
      | _ => .fail) = r → mEnum m ρ S = r := fun r hr => by
    unfold mEnum
    rw [e1]
    exact hr
  cases d with
  | tup ds =>
    obtain ⟨a, rfl, ⟨xs, hx⟩, hI⟩ := iet_ok R1 x
    exact ⟨a, xs, rfl, .inr ⟨hx, q _ S1 μ1 H1 _ (em _ rfl) st hI⟩⟩
  | lst ds => exact goL ds [] rfl rfl (fun z h => nomatch h) (em _ rfl)
  | fro ds => exact goL ds [] rfl rfl (fun z h => nomatch h) (em _ rfl)
  | ref n =>
    cases hn : S1[n]? with
    | none => dsimp only at F1; rw [hn] at F1; exact F1.elim
    | some c =>
      cases c with
      | lst ds => exact goL ds [(n, ds)] (by rw [show itemsD S1 (.ref n) = (match S1[n]? with | some (.lst ds) => some (ds, [(n, ds)]) | _ => none) from rfl, hn]) rfl (fun z h => nomatch h) (em _ (by rw [bind_ok]; dsimp only; rw [hn]))
      | _ => dsimp only at F1; rw [hn] at F1; exact F1.elim
  | _ => exact F1.elim

end
section
variable {ρ : Env'} {S : Store} {me mo mi : M D}
theorem x_sub : sSub me mo mi ρ S = (me ρ S).s ρ fun d S1 => (mo ρ (box d S1).2).s ρ fun o S2 => (mi ρ S2).s ρ fun i S3 => match o, i with
  | .ref n, .int k => match S3[n]? with
    | some (.lst ds) => match ixN ds.length k with
      | some j => .next ρ (S3.set n (.lst (ds.set j (box d S1).1)))
      | none => .fail
    | _ => .fail
  | _, _ => .fail := (rfl)
theorem x_pop : mPop mo ρ S = (mo ρ S).bind fun o S1 => match o with
  | .ref n => match S1[n]? with
    | some (.lst ds) => match ds[ds.length - 1]? with
      | some d => .ok d (S1.set n (.lst ds.dropLast))
      | none => .fail
    | _ => .fail
  | _ => .fail := (rfl)
open Classical in
theorem x_popAt : mPopAt mo me ρ S = (mo ρ S).bind fun o S1 => match o with
  | .ref n => if isLst S1 n = true then (me ρ S1).bind fun e S2 => match e with
    | .int i => match S2[n]? with
      | some (.lst ds) => if In63 i then match seqIndex? i ds.length with
        | some k => match ds[k]? with
          | some d => .ok d (S2.set n (.lst (ds.eraseIdx k)))
          | none => .fail
        | none => .fail
        else .fail
      | _ => .fail
    | _ => .fail
    else .fail
  | _ => .fail := (rfl)
theorem x_enum : mEnum mo ρ S = (mo ρ S).bind fun d S1 => match d with
  | .tup ds => .ok (enumL 0 ds, []) S1
  | .lst ds => .ok (enumL 0 ds, []) S1
  | .fro ds => .ok (enumL 0 ds, []) S1
  | .ref n => match S1[n]? with
    | some (.lst ds) => .ok (enumL 0 ds, [(n, ds)]) S1
    | _ => .fail
  | _ => .fail := (rfl)
end
/-- ints from nought -/
def iota (n : Nat) : List Int := (List.range n).map fun (i : Nat) => (i : Int)
theorem iota_len {n : Nat} : (iota n).length = n := by simp [iota]
theorem iota_mem {n : Nat} {x : Int} : x ∈ iota n ↔ 0 ≤ x ∧ x < n := by
  unfold iota
  simp only [List.mem_map, List.mem_range]
  constructor
  · rintro ⟨i, h, rfl⟩; omega
  · intro h; exact ⟨x.toNat, by omega, by omega⟩
theorem iota_at {n i : Nat} (h : i < n) : (iota n)[i]? = some (i : Int) := by
  unfold iota; simp [h]
theorem range_iota {n : Nat} : rangeL 0 n = (iota n).map D.int := by
  unfold rangeL iota
  rw [List.map_map]
  refine List.map_congr_left fun i _ => ?_
  simp
theorem iota_nodup {n : Nat} : (iota n).Nodup := by
  unfold iota
  exact (List.nodup_range).map _ fun a b h e => h (by omega)
theorem iota_sorted {n : Nat} : (iota n).Pairwise (· ≤ ·) := by
  unfold iota
  rw [List.pairwise_map]
  exact List.pairwise_le_range.imp fun h => by omega
theorem sort_iota {ns : List Int} {n : Nat} : sortI ns = iota n ↔ ns.Perm (iota n) := by
  constructor
  · intro h; rw [← h]; exact (sortI_perm ns).symm
  · intro h; exact sorted_one (sortI_pairwise ns) iota_sorted ((sortI_perm ns).trans h)
theorem ix_nat {α : Type} {xs : List α} {i : Nat} (h : i < xs.length) : atI xs (i : Int) = xs[i]? := by
  unfold atI ixN
  rw [if_pos (by omega), if_pos (by omega), Int.toNat_natCast]
  rfl
theorem ixn_nat {n i : Nat} (h : i < n) : ixN n (i : Int) = some i := by
  unfold ixN
  rw [if_pos (by omega), if_pos (by omega), Int.toNat_natCast]
theorem idx_tup {ds : List D} {i : Int} {S : Store} : idxD (.tup ds) (.int i) S = atI ds i := rfl
theorem idx_ref {n : Nat} {ds : List D} {i : Int} {S : Store} (h : S[n]? = some (.lst ds)) : idxD (.ref n) (.int i) S = atI ds i := by
  show (match seqA S (.ref n) with | some ds => atI ds i | none => none) = _
  rw [seqA_ref, h]
theorem idx_seq {d : D} {ds : List D} {i : Int} {S : Store} (h : seqA S d = some ds) (hs : ∀ x, d ≠ .str x) : idxD d (.int i) S = atI ds i := by
  cases d with
  | str x => exact absurd rfl (hs x)
  | _ => first | (cases h; rfl) | (cases h; done) | (show (match seqA S _ with | some ds => atI ds i | none => none) = _; rw [h])
end Ev
/-! Ev13: raise, try. -/
namespace Ev
open PySem PySem.Spec PyProof.Rows L2
section
variable {X : Cx} {W : WX}
/-- an own class of exceptions without an __init__ of its own -/
structure ExcOk (X : Cx) (x : Str) : Prop where
  ex : ∃ (C : Addr) (B newId initId : String) (bmB : List Value), ExcBaseFacts B newId initId bmB ∧ PySem.W.excIn X.K C bmB newId = true ∧ X.mg x = some (.ref C) ∧ PySem.W.keepIn X.K (.ref C) = true ∧ Raises X (.ref C)
def sRaise (x : Str) : MS := fun ρ S => .exc x [] [] ρ S
theorem evs_raise {x m : Str} {j : Nat} {p p2 pos pos' : Pos} (hc : X.calm = true) (tk : L2N.Takes X W) (hx : ExcOk X x) (hg : Gl X x) (hdb : (x == ("__debug__" : Str)) = false) :
    EvS X W (.Raise (some (.Call (.Name x p) [.Constant (.str m) j p2] [] pos)) none pos') (sRaise x) := by
  obtain ⟨C, B, newId, initId, bmB, F, q, gC, kC, r⟩ := hx.ex
  refine PS.imp (L2N.ps_raise hc tk (L2N.pmk_own F q gC kC r hg hdb)) fun E σ H ⟨μ, S, ρ, R, En, G⟩ => ?_
  exact G (.ref C) none σ μ H (Step.refl R) En ⟨C, gC, rfl, rfl, rfl⟩
/-- try: .. except C: .. ; isx tells of the classes that may come whether they are caught -/
def sTry (isx : Str → Option Bool) (mb ms : MS) : MS := fun ρ S => match mb ρ S with
  | .exc c ks ds ρ1 S1 => match isx c with
    | some true => ms ρ1 S1
    | some false => .exc c ks ds ρ1 S1
    | none => .fail
  | r => r
theorem evs_try {x : Str} {c : Value} {body suite : List Stmt} {b0 : Stmt} {np pos pos' : Pos} {isx : Str → Option Bool} {mb ms : MS} (hs : X.stack = X.env :: X.outer) (hf : X.env.frame = some X.env.locals) (hc : Names X x c) (tk : L2N.Takes X W)
    (hi : ∀ c' b C', isx c' = some b → X.mg c' = some (.ref C') → PySem.W.exmOne X.K (.ref C') c = some b)
    (hb : ∀ (W : WX) (pn : List (Addr × Obj)) (xe : Value → Shared → Prop), L2N.Takes (X.tr pn xe) W → PassesOwn (model X.prog X.w) X.A X.env xe → EvSs (X.tr pn xe) W body mb)
    (hsu : ∀ (a : Addr) (oe : Obj) (pn : List (Addr × Obj)), EvSs (X.suite a ((a, oe) :: pn)) W (b0 :: suite) ms) :
    EvS X W (.Try body [.ExceptHandler (some (.Name x np)) none (b0 :: suite) pos'] [] [] pos) (sTry isx mb ms) := by
  refine PS.imp (L2N.ps_try_many hs hf tk (tb := fun W => TMs X W mb) (l := [(c, fun _ _ _ => TMs X W ms)]) (fun W pn xe t p => hb W pn xe t p) (L2N.HdsOk.cons hc (fun a oe cls d pn _ _ => hsu a oe pn) .nil)) fun E σ H ⟨μ, S, ρ, R, En, G⟩ => ?_
  refine ⟨μ, S, ρ, R, En, ?_⟩
  unfold sTry at G
  cases hm : mb ρ S with
  | exc c' ks ds ρ1 S1 =>
    rw [hm] at G
    intro cls dx σ' μ' H' st En' xr
    obtain ⟨C', g1, e1, h2⟩ := id xr
    subst e1
    dsimp only at G
    cases hq : isx c' with
    | none => rw [hq] at G; exact G.elim
    | some b =>
      rw [hq] at G
      refine ⟨b, hi c' b C' hq g1, fun eb a ha => ?_, fun eb => ?_⟩
      · subst eb
        exact ⟨μ', S1, ρ1, st.rel, En', GoodS.back R st G⟩
      · subst eb
        exact G (.ref C') dx σ' μ' H' st En' xr
  | next _ _ => rw [hm] at G; exact G
  | brk _ _ => rw [hm] at G; exact G
  | cont _ _ => rw [hm] at G; exact G
  | ret _ _ => rw [hm] at G; exact G
  | fail => rw [hm] at G; exact G.elim
end
end Ev
/-! Ev14: zip. -/
namespace Ev
open PySem PySem.Spec PyProof.Rows L2
/-- the items in pairs -/
def zipL (ds es : List D) : List D := List.zipWith (fun d e => .tup [d, e]) ds es
theorem zipL_len {ds es : List D} : (zipL ds es).length = min ds.length es.length := by unfold zipL; simp
theorem zipL_at {ds es : List D} {i : Nat} {d e : D} (h : ds[i]? = some d) (h' : es[i]? = some e) : (zipL ds es)[i]? = some (.tup [d, e]) := by
  unfold zipL
  rw [List.getElem?_zipWith, h, h']
def heldD (S : Store) (d : D) : Option (List D × Guard) := match d with
  | .tup _ => none
  | .str _ => none
  | d => itemsD S d
def zipD (S : Store) (d e : D) : Option (List D × Guard) := match seqT d, seqT e with
  | some ds, some es => some (zipL ds es, [])
  | _, _ => match heldD S d, heldD S e with
    | some (ds, g), some (es, g') => some (zipL ds es, g ++ g')
    | _, _ => none
def mZip (m m' : M D) : M (List D × Guard) := fun ρ S => (m ρ S).bind fun d S1 => (m' ρ S1).bind fun e S2 => Out.of (zipD S2 d e) S2
section
variable {K : PySem.W.Frag} {mg : Str → Option Value} {μ : List Addr} {H0 H : Hp} {S : Store}
theorem rep_two {T : Addr} {d e : D} {x y : V} {S : Store} (R : Rel K mg μ S H) (hT : H T = none) (r : Rep K μ H d x) (r' : Rep K μ H e y) : Rep K μ (upd H T (.tup [x, y])) (.tup [d, e]) (.ref T) := by
  have st := Step.fresh (o := .tup [x, y]) R hT
  unfold Rep
  exact ⟨T, _, rfl, .inl (.inl upd_same), RepL.cons (st.rep R r) (RepL.cons (st.rep R r') RepL.nil)⟩
theorem izl_ok {a b : Addr} {ds es : List D} {g g' : Guard} (h : ItOk K mg (Itl K a) ds g μ S H) (h' : ItOk K mg (Itl K b) es g' μ S H) : ItOk K mg (Itz K a b) (zipL ds es) (g ++ g') μ S H := by
  intro μ' S' H' st hg
  obtain ⟨g1, g2⟩ := gOk_append.mp hg
  obtain ⟨q1, q2, q3⟩ := h μ' S' H' st g1
  obtain ⟨p1, p2, p3⟩ := h' μ' S' H' st g2
  rw [zipL_len]
  refine ⟨fun i hi => ?_, ?_, fun i y H2 hi hy => ?_⟩
  · obtain ⟨xs, x, hx, ex⟩ := q1 i (by omega)
    obtain ⟨ys, y, hy, ey⟩ := p1 i (by omega)
    exact ⟨xs, ys, x, y, hx, hy, ex, ey⟩
  · obtain ⟨xs, hx, ex⟩ := q2
    obtain ⟨ys, hy, ey⟩ := p2
    refine ⟨xs, ys, hx, hy, ?_⟩
    rcases Nat.le_total ds.length es.length with c | c
    · exact .inl (by rw [Nat.min_eq_left c]; exact ex)
    · exact .inr (by rw [Nat.min_eq_right c]; exact ey)
  · obtain ⟨T, x, y, rfl, hT, rfl, hx, hy⟩ := hy
    obtain ⟨_, d, hd, r⟩ := q3 i x H' (by omega) ⟨rfl, hx⟩
    obtain ⟨_, e, he, r'⟩ := p3 i y H' (by omega) ⟨rfl, hy⟩
    exact ⟨Ext.fresh hT, .tup [d, e], zipL_at hd he, rep_two st.rel hT r r'⟩
theorem izt_ok {ds es : List D} {v v' : V} (R : Rel K mg μ S H) (x : ResOk K mg μ H0 H (.tup ds) v) (x' : ResOk K mg μ H0 H (.tup es) v') : ∃ a b, v = .ref a ∧ v' = .ref b ∧ (∃ xs, SqT K H a xs) ∧ (∃ xs, SqT K H b xs) ∧ ItOk K mg (RZ.ItzT K a b) (zipL ds es) [] μ S H := by
  have x := x.rep rfl
  have x' := x'.rep rfl
  have x0 := x
  have x0' := x'
  unfold Rep at x x'
  obtain ⟨a, vs, rfl, hq, l⟩ := x
  obtain ⟨b, ws, rfl, hq', l'⟩ := x'
  refine ⟨a, b, rfl, rfl, ⟨vs, hq⟩, ⟨ws, hq'⟩, fun μ' S' H' st _ => ?_⟩
  have y := st.rep R x0
  have y' := st.rep R x0'
  unfold Rep at y y'
  obtain ⟨_, vs, e, hq, l⟩ := y
  cases e
  obtain ⟨_, ws, e, hq', l'⟩ := y'
  cases e
  have n1 := l.length
  have n2 := l'.length
  rw [zipL_len]
  refine ⟨fun i hi => ?_, ⟨vs, ws, hq, hq', by omega⟩, fun i y H2 hi hy => ?_⟩
  · obtain ⟨w, hw, _⟩ := repL_get l (List.getElem?_eq_getElem (show i < ds.length by omega))
    obtain ⟨u, hu, _⟩ := repL_get l' (List.getElem?_eq_getElem (show i < es.length by omega))
    exact ⟨vs, ws, w, u, hq, hq', hw, hu⟩
  · obtain ⟨T, x, y, rfl, hT, rfl, hx, hy⟩ := hy
    have c1 := List.getElem?_eq_getElem (show i < ds.length by omega)
    have c2 := List.getElem?_eq_getElem (show i < es.length by omega)
    obtain ⟨w, hw, rw'⟩ := repL_get l c1
    obtain ⟨u, hu, ru'⟩ := repL_get l' c2
    have := hx vs hq
    rw [hw] at this
    cases this
    have := hy ws hq'
    rw [hu] at this
    cases this
    exact ⟨Ext.fresh hT, _, zipL_at c1 c2, rep_two st.rel hT rw' ru'⟩
theorem held_ok {d : D} {ds : List D} {g : Guard} {v : V} (R : Rel K mg μ S H) (x : ResOk K mg μ H0 H d v) (h : heldD S d = some (ds, g)) : ∃ a, v = .ref a ∧ (∃ xs, SqL K H a xs) ∧ ItOk K mg (Itl K a) ds g μ S H := by
  refine itl_ok (d := d) R x ?_ ?_ ?_
  · cases d <;> first | exact h | cases h
  · cases d <;> first | rfl | cases h
  · intro z e; subst e; cases h
end
section
variable {X : Cx} {W : WX}
theorem evi_zip {e e2 : Expr} {m m' : M D} {p pos tpos : Pos} {elts : List Expr} {kk : Nat} (hg : Gl X "zip") (hm : X.mg "zip" = none) (he : EvE X W e m) (hs : notStar e = true) (he2 : EvE X W e2 m') (hs2 : notStar e2 = true) :
    EvI X W (.Tuple elts kk tpos) (.Call (.Name "zip" p) [e, e2] [] pos) (mZip m m') := by
  refine PI.imp (RZ.pi_zipA hg hm (pa_cons he.pe (pa_cons he2.pe pa_nil (star_of hs2)) (star_of hs)) (star_of hs) (by rw [star_of hs2]; rfl)) fun σ H R ⟨μ, S, ρ, Re, E, F, q⟩ => ?_
  unfold mZip at F q
  refine tm1 Re E F fun d1 S1 v1 μ1 H1 e1 st1 x1 R1 E1 F1 => ?_
  refine tm1 R1 E1 F1 fun d2 S2 v2 μ2 H2 e2 st2 x2 R2 E2 F2 => ?_
  obtain ⟨⟨items, g⟩, er⟩ := fine_of F2
  have qq := q (items, g) S2 μ2 H2
  have he : ∀ J, ItOk X.K X.mg J items g μ2 S2 H2 → R J H2 := fun J hJ => qq J (by rw [e1, bind_ok, e2, bind_ok, er]; rfl) (st1.trans Re st2) hJ
  have y1 := x1.step R1 st2
  have y2 := x2.back Re st1
  have y1 : ResOk X.K X.mg μ2 H H2 d1 v1 := y1
  have y2 : ResOk X.K X.mg μ2 H H2 d2 v2 := y2
  show ∃ a b xs ys, [v1, v2] = [V.ref a, V.ref b] ∧ _
  unfold zipD at er
  split at er
  · rename_i ds es h1 h2
    cases er
    cases d1 <;> try (cases h1)
    cases d2 <;> try (cases h2)
    obtain ⟨a, b, rfl, rfl, ⟨xs, hx⟩, ⟨ys, hy⟩, hI⟩ := izt_ok R2 y1 y2
    exact ⟨a, b, xs, ys, rfl, .inr ⟨hx, hy, he _ hI⟩⟩
  · split at er
    · rename_i ds g1 es g2 h1 h2
      cases er
      obtain ⟨a, rfl, ⟨xs, hx⟩, hI⟩ := held_ok R2 y1 h1
      obtain ⟨b, rfl, ⟨ys, hy⟩, hJ⟩ := held_ok R2 y2 h2
      exact ⟨a, b, xs, ys, rfl, .inl ⟨hx, hy, he _ (izl_ok hI hJ)⟩⟩
    · cases er
end
end Ev
/-! Ev15: chains. -/
namespace Ev
open PySem PySem.Spec PyProof.Rows L2
section
variable {X : Cx} {W : WX}
/-- an operation of the evaluator as a two-place operation of the layer below -/
def rD (X : Cx) (g : D → D → Store → Option D) : R2 := fun x y H Q => ∃ μ S H0 d e res, Rel X.K X.mg μ S H ∧ ResOk X.K X.mg μ H0 H d x ∧ ResOk X.K X.mg μ H0 H e y ∧ g d e S = some res ∧
  ∀ v' H', Step X.K X.mg μ H μ S H' → ResOk X.K X.mg μ H H' res v' → Q v' H'
theorem OpD.opr {f : Value → Value → Sem Value} {g : D → D → Store → Option D} (h : OpD X f g) : OpR X f (rD X g) := by
  intro pins s σ H x y v u Q I r1 r2 ⟨μ, S, H0, d, e, res, R, x1, x2, eg, q⟩
  exact thn (h pins s σ H μ S H0 d e x y v u res I R x1 x2 r1 r2 eg) fun w s' ⟨v', H', I', r', st, x'⟩ => ⟨v', H', I', r', q v' H' st x'⟩
def blO : Option D → Option D
  | some (.bl k) => some (.bl k)
  | _ => none
theorem blO_some {o : Option D} {r : D} (h : blO o = some r) : o = some r ∧ ∃ k, r = .bl k := by
  unfold blO at h
  split at h
  · cases h; exact ⟨rfl, _, rfl⟩
  · cases h
def mChain (g g' : D → D → Store → Option D) (ma mb mc : M D) : M D := fun ρ S => (ma ρ S).bind fun d S1 => (mb ρ S1).bind fun e S2 => match g d e S2 with
  | some (.bl true) => (mc ρ S2).bind fun f S3 => Out.of (blO (g' e f S3)) S3
  | some (.bl false) => .ok (.bl false) S2
  | _ => .fail
theorem chain_ok {g g' : D → D → Store → Option D} {ma mb mc : M D} {σ : L2.St} {H : Hp} {μ : List Addr} {S : Store} {ρ : Env'} (R : Rel X.K X.mg μ S H) (E : EnvOk X.K μ H ρ σ) (F : Fine X.K X.mg W μ H σ (mChain g g' ma mb mc ρ S)) {Q : VK}
    (q : ∀ d S' v μ' H', mChain g g' ma mb mc ρ S = .ok d S' → Step X.K X.mg μ H μ' S' H' → ResOk X.K X.mg μ' H H' d v → Q v H') :
    tChain (rD X g) (rD X g') (TM X W ma) (TM X W mb) (TM X W mc) σ H Q := by
  unfold mChain at F q
  refine tm1 R E F fun d1 S1 v1 μ1 H1 e1 st1 x1 R1 E1 F1 => ?_
  refine tm1 R1 E1 F1 fun d2 S2 v2 μ2 H2 e2 st2 x2 R2 E2 F2 => ?_
  have q' : ∀ d S' v μ' H', (match g d1 d2 S2 with
      | some (.bl true) => (mc ρ S2).bind fun f S3 => Out.of (blO (g' d2 f S3)) S3
      | some (.bl false) => .ok (.bl false) S2
      | _ => .fail) = .ok d S' → Step X.K X.mg μ H μ' S' H' → ResOk X.K X.mg μ' H H' d v → Q v H' := fun d S' v μ' H' h => q d S' v μ' H' (by rw [e1, bind_ok, e2, bind_ok]; exact h)
  have st12 := st1.trans R st2
  have y1 := x1.step R1 st2
  have y2 := x2.back R st1
  cases hg : g d1 d2 S2 with
  | none => rw [hg] at F2; exact F2.elim
  | some r =>
    rw [hg] at F2 q'
    cases r with
    | bl b =>
      refine ⟨μ2, S2, H, d1, d2, _, R2, y1, y2, hg, fun v' H' st x => ?_⟩
      cases rep_bl x
      refine ⟨b, rfl, ?_⟩
      have R3 := st.rel
      cases b with
      | false =>
        rw [if_neg (by decide)]
        exact q' _ S2 _ μ2 H' rfl (st12.trans R st) (x.back R st12)
      | true =>
        rw [if_pos rfl]
        have E3 := E2.step R2 st
        have F3 := Fine.back R2 st F2
        refine tm1 R3 E3 F3 fun d4 S4 v4 μ4 H4 e4 st4 x4 R4 E4 F4 => ?_
        obtain ⟨res, er⟩ := fine_of F4
        have st34 := st.trans R2 st4
        have st14 := st12.trans R st34
        refine ⟨μ4, S4, H, d2, d4, res, R4, y2.step R2 st34, x4.back R (st12.trans R st), (blO_some er).1, fun v' H5 st5 x5 => ?_⟩
        exact q' _ S4 _ μ4 H5 (by dsimp only; rw [e4, bind_ok, er]; rfl) (st14.trans R st5) (x5.back R st14)
    | _ => exact F2.elim
theorem ev_chain {a b c : Expr} {op op' : CmpOp} {pos : Pos} {ma mb mc : M D} (hu : X.A.units + 64 < cLine) (ha : EvE X W a ma) (hb : EvE X W b mb) (hc : EvE X W c mc) (hm : lastMarks [op, op'] [b, c] = false) :
    EvE X W (.Compare a [op, op'] [b, c] pos) (mChain (cmpD op) (cmpD op') ma mb mc) := by
  refine EvE.of_pe (pe_chain (cmpD_ok hu op).opr (cmpD_ok hu op').opr ha.pe hb.pe hc.pe hm) fun σ H μ S ρ R E F => ?_
  exact chain_ok R E F fun d S' v μ' H' e st x => ⟨d, S', μ', e, st, x⟩
theorem evt_chain {a b c : Expr} {op op' : CmpOp} {pos : Pos} {ma mb mc : M D} (hu : X.A.units + 64 < cLine) (ha : EvE X W a ma) (hb : EvE X W b mb) (hc : EvE X W c mc) (hm : lastMarks [op, op'] [b, c] = false) :
    EvT X W (.Compare a [op, op'] [b, c] pos) (mTru (mChain (cmpD op) (cmpD op') ma mb mc)) := by
  refine EvT.of_pt (pt_chain (cmpD_ok hu op).opr (cmpD_ok hu op').opr ha.pe hb.pe hc.pe hm) fun σ H μ S ρ R E F => ?_
  refine chain_ok R E F.left fun d S' v μ' H' e st x => ?_
  have F1 : Fine X.K X.mg W μ' H' σ (Out.of (truD S' d) S') := Fine.right (f := fun d S1 => Out.of (truD S1 d) S1) R st F e
  have hd : ∃ k, d = .bl k := by
    unfold mChain at e
    obtain ⟨d1, S1, e1, e⟩ := bind_eq_ok e
    obtain ⟨d2, S2, e2, e⟩ := bind_eq_ok e
    split at e
    · obtain ⟨d3, S3, e3, e⟩ := bind_eq_ok e
      cases hb : blO (cmpD op' d2 d3 S3) with
      | none => rw [hb] at e; cases e
      | some r =>
        rw [hb] at e
        cases e
        exact (blO_some hb).2
    · cases e; exact ⟨false, rfl⟩
    · cases e
  obtain ⟨k, rfl⟩ := hd
  refine ⟨k, rep_bl x, S', μ', ?_, st⟩
  unfold mTru
  rw [e]
  rfl
end
section
variable {ρ : Env'} {S : Store} {a b c : M D} {g g' : D → D → Store → Option D}
@[simp] theorem x_blO {k : Bool} : blO (some (.bl k)) = some (.bl k) := rfl
@[simp] theorem x_chain : mChain g g' a b c ρ S = (a ρ S).bind fun d S1 => (b ρ S1).bind fun e S2 => match g d e S2 with
  | some (.bl true) => (c ρ S2).bind fun f S3 => Out.of (blO (g' e f S3)) S3
  | some (.bl false) => .ok (.bl false) S2
  | _ => .fail := (rfl)
@[simp] theorem x_zip : mZip a b ρ S = (a ρ S).bind fun d S1 => (b ρ S1).bind fun e S2 => Out.of (zipD S2 d e) S2 := (rfl)
end
end Ev
/-! Ev16: range of three, list.count. -/
namespace Ev
open PySem PySem.Spec PyProof.Rows L2
def rangeC (lo c : Int) (n : Nat) : List D := (List.range n).map fun i => D.int (lo + (i : Nat) * c)
theorem itc_ok {K : PySem.W.Frag} {mg : Str → Option Value} {μ : List Addr} {H : Hp} {S : Store} {lo c : Int} {n : Nat} : ItOk K mg (Itc lo c n) (rangeC lo c n) [] μ S H := by
  intro μ' S' H' st _
  have hl : (rangeC lo c n).length = n := by simp [rangeC]
  refine ⟨fun i hi => by rw [hl] at hi; exact hi, by rw [hl]; exact Nat.le_refl _, fun i y H2 hi hy => ?_⟩
  obtain ⟨e, ev⟩ := hy
  subst e
  rw [hl] at hi
  refine ⟨Ext.refl, .int (lo + (i : Nat) * c), by simp [rangeC, hi], by unfold Rep; exact ev⟩
/-- how many, and that the bounds are small -/
def rgN (i j c : Int) : Nat := (Builtin.Range.rangeSize i j c).toNat
section
variable {X : Cx} {W : WX}
open Classical in
noncomputable def mRange3 (m m' m3 : M D) : M (List D × Guard) := fun ρ S => (m ρ S).bind fun d S1 => (m' ρ S1).bind fun e S2 => (m3 ρ S2).bind fun f S3 => match d, e, f with
  | .int i, .int j, .int c => if RgC i j c (rgN i j c) then .ok (rangeC i c (rgN i j c), []) S3 else .fail
  | _, _, _ => .fail
theorem evi_range3 {tg a b c : Expr} {m m' m3 : M D} {p pos : Pos} (hg : Gl X "range") (hm : X.mg "range" = none) (ha : EvE X W a m) (hb : EvE X W b m') (hc : EvE X W c m3) (hs : notStar a = true) (hs' : notStar b = true) (hs3 : notStar c = true) :
    EvI X W tg (.Call (.Name "range" p) [a, b, c] [] pos) (mRange3 m m' m3) := by
  refine PI.imp (pi_range3 hg hm (pa_cons ha.pe (pa_cons hb.pe (pa_cons hc.pe pa_nil (star_of hs3)) (star_of hs')) (star_of hs)) (star_of hs) (by rw [star_of hs', star_of hs3]; rfl)) fun σ H R ⟨μ, S, ρ, Re, E, F, q⟩ => ?_
  unfold mRange3 at F q
  refine tm1 Re E F fun d S1 v μ1 H1 e st x R1 E1 F1 => ?_
  refine tm1 R1 E1 F1 fun d2 S2 v2 μ2 H2 e2 st2 x2 R2 E2 F2 => ?_
  refine tm1 R2 E2 F2 fun d3 S3 v3 μ3 H3 e3 st3 x3 R3 E3 F3 => ?_
  split at F3
  · rename_i i j c
    split at F3
    · rename_i hj
      cases rep_int x
      cases rep_int x2
      cases rep_int x3
      exact ⟨i, j, c, _, rfl, hj, q _ S3 μ3 H3 _ (by rw [e, bind_ok, e2, bind_ok, e3, bind_ok]; exact if_pos hj) ((st.trans Re st2).trans Re st3) itc_ok⟩
    · exact F3.elim
  · exact F3.elim
/-- a comprehension set to a name that another comprehension reads -/
theorem evs_setC {i : Nat} {x : Str} {e : Expr} {m : M D} {pos pos' : Pos} (hN : X.N.Nodup) (hi : X.N[i]? = some x) (hx : Loc X.env.scope x) (hf : X.fn x = true ∨ X.env.scope.names.lookup x = some .local) (he : EvE X W e m) (hs : swapsWith e (some (.Name x pos')) pos.line X.env = pure false) :
    EvS X W (.Assign [.Name x pos'] e pos) (sAsg (bName i) m) := by
  refine PS.imp (ps_set hN hi hx he.pe hs hf) fun E σ H ⟨μ, S, ρ, R, En, G⟩ => ?_
  unfold sAsg at G
  refine ⟨μ, S, ρ, R, En, G.left R En, fun d S1 v μ1 H1 e st x => ?_⟩
  rw [e] at G
  obtain ⟨μ', S', ρ2, d2, ρ', R', E', r', b', q'⟩ := asg_good (b := bName i) (sl := [i]) st.rel (En.step R st) x R st G
  cases b'
  exact q' _ (E'.set i r') fun vs h => wipe_set (h i (by simp))
/-- o.count(e), ints -/
def cntD (o : Option (List D)) (e : D) : Option D := match o, e with
  | some ds, .int k => match intsD ds with
    | some ns => some (.int (ns.count k : Nat))
    | none => none
  | _, _ => none
def mCount (mo me : M D) : M D := fun ρ S => (mo ρ S).bind fun o S1 => if (seqL S1 o).isSome = true then (me ρ S1).bind fun e S2 => Out.of (cntD (seqL S2 o) e) S2 else .fail
theorem ev_count {o e : Expr} {apos pos : Pos} {mo me : M D} (ho : EvE X W o mo) (he : EvE X W e me) (hb : notCall0 o = true) (hs : notStar e = true) (hline : (apos.endLine == pos.line) = true) :
    EvE X W (.Call (.Attribute o "count" apos) [e] [] pos) (mCount mo me) := by
  refine EvE.of_pe (pe_bm (T := "list") (id := "list.count") PySem.F.plainAttrs_list PySem.F.slot_list_count PySem.F.type_list_count mt_lcount ho.pe (pa_one he hs) (base_of hb _) (by rw [star_of hs]; rfl) hline (star_of hs) rfl) fun σ H μ S ρ R E F => ?_
  unfold mCount at F ⊢
  refine tm1 R E F fun d S1 v μ1 H1 e1 st x R1 E1 F1 => ?_
  rw [e1, bind_ok]
  split at F1
  · rename_i hl
    obtain ⟨ds0, h0⟩ := Option.isSome_iff_exists.mp hl
    obtain ⟨a0, vs0, ev, hq0, _⟩ := seqL_ok R1 x h0
    subst ev
    refine ⟨.inl ⟨rfl, _, hq0⟩, ?_⟩
    simp only [hl, if_true]
    refine tm1 R1 E1 F1 fun d2 S2 w μ2 H2 e2 st2 x2 R2 E2 F2 => ?_
    rw [e2, bind_ok]
    obtain ⟨r, er⟩ := fine_of F2
    have er0 := er
    unfold cntD at er
    split at er
    · rename_i ds k h2
      split at er
      · rename_i ns hn
        cases er
        obtain ⟨a, vs, ea, hq, rl⟩ := seqL_ok R2 (x.step R1 st2) h2
        cases ea
        have en := intsD_ok hn rl
        subst en
        refine ⟨a0, ns, k, rfl, by rw [rep_int x2], hq, _, S2, μ2, by rw [er0]; rfl, st.trans R st2, ResOk.plain (by unfold Rep; rfl)⟩
      · cases er
    · cases er
  · exact F1.elim
end
section
variable {ρ : Env'} {S : Store} {a b c : M D}
open Classical in
@[simp] theorem x_range3 : mRange3 a b c ρ S = (a ρ S).bind fun d S1 => (b ρ S1).bind fun e S2 => (c ρ S2).bind fun f S3 => match d, e, f with
  | .int i, .int j, .int c => if RgC i j c (rgN i j c) then .ok (rangeC i c (rgN i j c), []) S3 else .fail
  | _, _, _ => .fail := (rfl)
@[simp] theorem x_count : mCount a b ρ S = (a ρ S).bind fun o S1 => if (seqL S1 o).isSome = true then (b ρ S1).bind fun e S2 => Out.of (cntD (seqL S2 o) e) S2 else .fail := (rfl)
end
end Ev
/-! Ev17: plain tuples, tuple.index. -/
namespace Ev
open PySem PySem.Spec PyProof.Rows L2
section
variable {X : Cx} {W : WX}
/-- tuple(list): a plain tuple -/
def rTupP (K : PySem.W.Frag) : List V → Hp → VK → Prop := fun vs H Q => ∃ p ys, vs = [.ref p] ∧ SqL K H p ys ∧ ∀ l o, H l = none → o.dict = none → Q (.ref l) (upd H l (.frz o (.tup ys)))
theorem cr_tupP : CallR X (.type "tuple") (rTupP X.K) := by
  intro pins s σ H vs us Q I r h
  obtain ⟨p, ys, rfl, hq, q⟩ := h
  rw [Vals.ref1 r]
  obtain ⟨its, rv, pl, hz⟩ := I.list hq
  have hn := rv.length
  refine call_tuple_list pl.isList (fun h' hk => ?_) (by rw [List.size_toArray]; omega)
  have I1 : Inv X pins σ H { s with heap := h' } := I.kept (t' := s.toks) hk
  let o : Obj := { cls := .type "tuple", data := .seq its.toArray }
  have hg : (h'.push o).get? h'.objs.size = some o := Heap.get?_push_size _ rfl
  have ok : ObjOk X.prog X.w (upd H h'.objs.size (.frz o (.tup ys))) (h'.push o) h'.objs.size (.frz o (.tup ys)) := ⟨hg, hz, its, rv, o, hg, rfl, _, rfl⟩
  have I2 : Inv X pins σ (upd H h'.objs.size (.frz o (.tup ys))) { s with heap := h'.push o } :=
    I1.laid (t' := s.toks) (fun b u e => Heap.get?_push_of_some _ e) (Nat.le_refl _) ok
  exact ⟨.ref h'.objs.size, _, I2, rfl, q _ o (I1.hok.fresh (Nat.le_refl _)) rfl⟩
theorem new_ptup {K : PySem.W.Frag} {mg : Str → Option Value} {μ : List Addr} {S : Store} {H : Hp} {ds : List D} {vs : List V} {p : Addr} {o : Obj} (R : Rel K mg μ S H) (h : H p = none) (hd : o.dict = none) (r : RepL K μ H ds vs) : ResOk K mg μ H (upd H p (.frz o (.tup vs))) (.ptup ds) (.ref p) :=
  ResOk.plain (by unfold Rep; exact ⟨p, vs, rfl, ⟨o, upd_same, hd⟩, r.keep R (keep_fresh h)⟩)
def tupPD (d : D) (S : Store) : Option D := match seqL S d with
  | some ds => some (.ptup ds)
  | none => none
theorem blt_tupP : CallD X (.type "tuple") (one tupPD) := by
  refine CallD.one cr_tupP fun H μ S H0 d v res R y eg => ?_
  unfold tupPD at eg
  split at eg
  · rename_i es h
    cases eg
    obtain ⟨a, ws, rfl, q, l⟩ := seqL_ok R y h
    exact ⟨a, ws, rfl, q, fun p o hp hd => ⟨Step.fresh R hp, new_ptup R hp hd l⟩⟩
  · cases eg
theorem Rep.unplain {K : PySem.W.Frag} {μ : List Addr} {H : Hp} {ds : List D} {v : V} (h : Rep K μ H (.ptup ds) v) : Rep K μ H (.tup ds) v := by
  unfold Rep at h ⊢
  obtain ⟨a, vs, e, q, r⟩ := h
  exact ⟨a, vs, e, q.t, r⟩
/-- a plain tuple is a tuple -/
def weakD : D → D
  | .ptup ds => .tup ds
  | d => d
def mWeak (m : M D) : M D := fun ρ S => (m ρ S).bind fun d S1 => .ok (weakD d) S1
theorem weak_res {K : PySem.W.Frag} {mg : Str → Option Value} {μ : List Addr} {H0 H : Hp} {d : D} {v : V} (x : ResOk K mg μ H0 H d v) : ResOk K mg μ H0 H (weakD d) v := by
  cases d <;> first | exact x | exact ResOk.plain (Rep.unplain (x.rep rfl))
theorem ev_weak {e : Expr} {m : M D} (h : EvE X W e m) : EvE X W e (mWeak m) := by
  refine ⟨fun pins s σ H μ S ρ I R E F => ?_⟩
  unfold mWeak at F
  refine thn (h.run pins s σ H μ S ρ I R E F.left) fun u s1 ⟨d, S1, v, μ1, H1, e1, I1, r1, st, x⟩ => ?_
  exact ⟨weakD d, S1, v, μ1, H1, by unfold mWeak; rw [e1]; rfl, I1, r1, st, weak_res x⟩
/-- t.index(k), ints, t plain, k in it -/
def pidxD (o e : D) : Option D := match o, e with
  | .ptup ds, .int k => match intsD ds with
    | some ns => if k ∈ ns then some (.int (ns.idxOf k : Nat)) else none
    | none => none
  | _, _ => none
def mTIdx (mo me : M D) : M D := fun ρ S => (mo ρ S).bind fun o S1 => match o with
  | .ptup ds => (me ρ S1).bind fun e S2 => Out.of (pidxD (.ptup ds) e) S2
  | _ => .fail
theorem ev_tidx {o e : Expr} {apos pos : Pos} {mo me : M D} (ho : EvE X W o mo) (he : EvE X W e me) (hb : notCall0 o = true) (hs : notStar e = true) (hline : (apos.endLine == pos.line) = true) :
    EvE X W (.Call (.Attribute o "index" apos) [e] [] pos) (mTIdx mo me) := by
  refine ⟨fun pins s σ H μ S ρ I R E F => ?_⟩
  unfold mTIdx at F ⊢
  refine wpAny_Call_method_late (base_of hb _) (by rw [star_of hs]; rfl) hline rfl (thn (ho.run pins s σ H μ S ρ I R E F.left) fun v s1 ⟨d, S1, x, μ1, H1, e1, I1, r1, st, xr⟩ => ?_)
  have F1 := Fine.right R st F e1
  split at F1
  · rename_i ds
    have q := xr.rep rfl
    unfold Rep at q
    obtain ⟨a, vs, rfl, ⟨ob, hH, hd⟩, rl⟩ := q
    cases r1
    obtain ⟨hg, hz, its, rv, pl⟩ := I1.hok a _ hH
    refine ⟨"tuple", "tuple.index", PySem.F.plainAttrs_tuple, PySem.F.slot_tuple_index, PySem.F.type_tuple_index, ?_, fun b e => ?_, ?_⟩
    · obtain ⟨o', ho', hc, _⟩ := pl
      exact ⟨o', ho', hc⟩
    · cases e
      exact ⟨ob, hg, hd⟩
    · have E1 := E.step R st
      rw [star_of hs]
      have go : tCons (TM X W me) tNil σ H1 (fun us H2 => ∃ (r : D) (S2 : Store) (μ2 : List Addr) (ns : List Int) (k : Int), us = [V.int k] ∧ k ∈ ns ∧ r = .int (ns.idxOf k : Nat) ∧ SqT X.K H2 a (ns.map V.int) ∧ Step X.K X.mg μ H μ2 S2 H2 ∧ (me ρ S1).bind (fun e S2 => Out.of (pidxD (.ptup ds) e) S2) = .ok r S2) := by
        refine tm1 st.rel E1 F1 fun d2 S2 y μ2 H2 e2 st2 x2 R2 E2 F2 => ?_
        obtain ⟨r, er⟩ := fine_of F2
        have er0 := er
        unfold pidxD at er
        split at er
        · rename_i ds' k ho2
          cases ho2
          split at er
          · rename_i ns hn
            split at er
            · rename_i hk
              cases er
              have z := st2.rep st.rel (xr.rep rfl)
              unfold Rep at z
              obtain ⟨a', vs', e', q', rl'⟩ := z
              cases e'
              have := intsD_ok hn rl'
              subst this
              exact ⟨.int (ns.idxOf k : Nat), S2, μ2, ns, k, by rw [rep_int x2], hk, rfl, q'.t, st.trans R st2, by rw [e2, bind_ok, er0]; rfl⟩
            · cases er
          · cases er
        · cases er
      have hA := (pa_one he hs).run pos pins s1 σ H1 _ I1 go
      rw [star_of hs] at hA
      refine Calls.callWith_builtin (by rfl) (Calls.evalArgs_plain ?_)
      refine thn hA fun us s2 ⟨vs2, H2, I2, rv2, r, S2, μ2, ns, k, ev, hk, er, hq2, st2, e2⟩ => ?_
      subst ev
      obtain ⟨u, rfl, t, rfl⟩ := vals1 rv2
      obtain ⟨its2, rv3, pl2, hz2⟩ := I2.tuple hq2
      refine SeqAt.tuple_index_ints (vs := its2) pl2 rv3.ints hk ?_
      exact ⟨r, S2, .int (ns.idxOf k : Nat), μ2, H2, by rw [e1, bind_ok]; exact e2, I2.tok _, ⟨_, rfl⟩, st2, by rw [er]; exact ResOk.plain (by unfold Rep; rfl)⟩
  · exact F1.elim
end
section
variable {ρ : Env'} {S : Store} {a b : M D}
@[simp] theorem x_weak : mWeak a ρ S = (a ρ S).bind fun d S1 => .ok (weakD d) S1 := (rfl)
@[simp] theorem x_tidx : mTIdx a b ρ S = (a ρ S).bind fun o S1 => match o with
  | .ptup ds => (b ρ S1).bind fun e S2 => Out.of (pidxD (.ptup ds) e) S2
  | _ => .fail := (rfl)
end
end Ev
/-! Ev18: what a run comes to, said by what is wanted behind it. -/
namespace Ev
open PySem PySem.Spec PyProof.Rows L2
abbrev XP := Str → List Str → List D → Store → Prop
def noXP : XP := fun _ _ _ _ => False
def Out.wp {α : Type} (r : Out α) (Q : α → Store → Prop) (E : XP) : Prop := match r with
  | .ok a S => Q a S
  | .exc c ks ds S => E c ks ds S
  | .fail => False
def SOut.wp (r : SOut) (N : Env' → Store → Prop) (R : D → Store → Prop) (B C : Env' → Store → Prop) (X : XP) : Prop := match r with
  | .next ρ S => N ρ S
  | .ret d S => R d S
  | .brk ρ S => B ρ S
  | .cont ρ S => C ρ S
  | .exc c ks ds _ S => X c ks ds S
  | .fail => False
section
variable {α β : Type} {r : Out α} {f : α → Store → Out β} {a : α} {S : Store} {E : XP} {Q Q' : α → Store → Prop}
@[simp] theorem wp_ok : (Out.ok a S).wp Q E = Q a S := rfl
@[simp] theorem wp_exc {c : Str} {ks : List Str} {ds : List D} : (Out.exc c ks ds S : Out α).wp Q E = E c ks ds S := rfl
@[simp] theorem wp_fail : (Out.fail : Out α).wp Q E = False := rfl
@[simp] theorem wp_bind {Q : β → Store → Prop} : (r.bind f).wp Q E = r.wp (fun a S => (f a S).wp Q E) E := by cases r <;> rfl
@[simp] theorem wp_some : (Out.of (some a) S).wp Q E = Q a S := rfl
@[simp] theorem wp_noX : r.noX.wp Q E = r.wp Q noXP := by cases r <;> rfl
theorem Out.wp.imp (h : r.wp Q E) (q : ∀ a S, Q a S → Q' a S) {E' : XP} (e : ∀ c ks ds S, E c ks ds S → E' c ks ds S) : r.wp Q' E' := by
  cases r with
  | ok a S => exact q a S h
  | exc c ks ds S => exact e c ks ds S h
  | fail => exact h
theorem Out.wp.up (h : r.wp Q noXP) (q : ∀ a S, Q a S → Q' a S) : r.wp Q' E := h.imp q fun _ _ _ _ z => z.elim
theorem Out.wp.ex (h : r.wp Q noXP) : ∃ a S, r = .ok a S ∧ Q a S := by
  cases r with
  | ok a S => exact ⟨a, S, rfl, h⟩
  | exc c ks ds S => exact h.elim
  | fail => exact h.elim
theorem wp_eq {S1 : Store} (e : r = .ok a S1) (h : Q a S1) : r.wp Q E := by rw [e]; exact h
end
section
variable {α : Type} {r : Out α} {f : α → Store → SOut} {a b : MS} {ρ : Env'} {S : Store} {N : Env' → Store → Prop} {R : D → Store → Prop} {B C : Env' → Store → Prop} {X : XP} {d : D} {c : Str} {ks : List Str} {ds : List D}
@[simp] theorem sw_next : (SOut.next ρ S).wp N R B C X = N ρ S := rfl
@[simp] theorem sw_ret : (SOut.ret d S).wp N R B C X = R d S := rfl
@[simp] theorem sw_brk : (SOut.brk ρ S).wp N R B C X = B ρ S := rfl
@[simp] theorem sw_cont : (SOut.cont ρ S).wp N R B C X = C ρ S := rfl
@[simp] theorem sw_exc : (SOut.exc c ks ds ρ S).wp N R B C X = X c ks ds S := rfl
@[simp] theorem sw_fail : (SOut.fail).wp N R B C X = False := rfl
@[simp] theorem sw_s : (r.s ρ f).wp N R B C X = r.wp (fun a S => (f a S).wp N R B C X) X := by cases r <;> rfl
theorem sw_seq (h : ∀ N' : Env' → Store → Prop, (∀ ρ1 S1, (b ρ1 S1).wp N R B C X → N' ρ1 S1) → (a ρ S).wp N' R B C X) : (sSeq a b ρ S).wp N R B C X := by
  have := h (fun ρ1 S1 => (b ρ1 S1).wp N R B C X) (fun _ _ z => z)
  unfold sSeq
  cases q : a ρ S <;> rw [q] at this <;> exact this
theorem sw_if {P : Prop} [Decidable P] {x y : SOut} (h1 : P → x.wp N R B C X) (h2 : ¬ P → y.wp N R B C X) : (if P then x else y).wp N R B C X := by
  split
  · rename_i h; exact h1 h
  · rename_i h; exact h2 h
theorem SOut.wp.imp {r : SOut} {N' R' B' C' X'} (h : r.wp N R B C X) (n : ∀ ρ S, N ρ S → N' ρ S) (t : ∀ d S, R d S → R' d S) (k : ∀ ρ S, B ρ S → B' ρ S) (l : ∀ ρ S, C ρ S → C' ρ S) (e : ∀ c ks ds S, X c ks ds S → X' c ks ds S) : r.wp N' R' B' C' X' := by
  cases r <;> first | exact n _ _ h | exact t _ _ h | exact k _ _ h | exact l _ _ h | exact e _ _ _ _ h | exact h

/-! ### functions -/
def closeR (S0 : Store) (Q : D → Store → Prop) : D → Store → Prop := fun d S2 => Q (closeD S0 d S2).1 (closeD S0 d S2).2
theorem run_wp {body : MS} {n : Nat} {ds : List D} {Q : D → Store → Prop} {E : XP} (h : (body ((boxL ds S).1.map some ++ List.replicate (n - ds.length) none) (boxL ds S).2).wp (fun _ S2 => Q .non (closeD S .non S2).2) (closeR S Q) (fun _ _ => False) (fun _ _ => False) (fun c ks es S2 => E c ks es (closeL S es S2))) :
    (runBody body n ds S).wp Q E := by
  unfold runBody
  cases q : body ((boxL ds S).1.map some ++ List.replicate (n - ds.length) none) (boxL ds S).2 <;> rw [q] at h <;> exact h
theorem closeR_eq {S0 S2 S3 : Store} {Q : D → Store → Prop} {d r : D} (c : closeD S0 d S2 = (r, S3)) (h : Q r S3) : closeR S0 Q d S2 := by
  unfold closeR; rw [c]; exact h
theorem good_wp {body : MS} {n : Nat} (h : ∀ ns : List Int, ns.length ≤ 63 → (∀ z ∈ ns, Builtin.Int.intBits z ≤ 1048576) → (body (some (.fro (ns.map D.int)) :: List.replicate (n - 1) none) []).wp (fun _ _ => False) (fun d _ => d = .bl true) (fun _ _ => False) (fun _ _ => False) noXP) : Good (runBody body n) := by
  refine good_of fun ns h1 h2 => ?_
  have z := h ns h1 h2
  cases q : body (some (.fro (ns.map D.int)) :: List.replicate (n - 1) none) [] with
  | ret d S => rw [q] at z; cases (show d = .bl true from z); exact ⟨S, rfl⟩
  | next _ _ => rw [q] at z; exact z.elim
  | brk _ _ => rw [q] at z; exact z.elim
  | cont _ _ => rw [q] at z; exact z.elim
  | exc _ _ _ _ _ => rw [q] at z; exact z.elim
  | fail => rw [q] at z; exact z.elim

/-! ### loops -/
@[simp] theorem x_for {b : Bind} {mi : M (List D × Guard)} {body : MS} : sFor b mi body ρ S = (mi ρ S).s ρ fun p S1 => forD b body p.2 p.1 ρ S1 := (rfl)
theorem forD_nil {b : Bind} {body : MS} {g : Guard} (hg : gOk g S) (h : N ρ S) : (forD b body g [] ρ S).wp N R B C X := by
  unfold forD; rw [if_pos hg]; exact h
theorem forD_cons {b : Bind} {body : MS} {g : Guard} {items : List D} {ρ1 : Env'} (hg : gOk g S) (hb : b d ρ = some ρ1)
    (h : (body ρ1 S).wp (fun ρ2 S2 => (forD b body g items ρ2 S2).wp N R B C X) R N (fun ρ2 S2 => (forD b body g items ρ2 S2).wp N R B C X) X) : (forD b body g (d :: items) ρ S).wp N R B C X := by
  unfold forD
  rw [if_pos hg, hb]
  dsimp only
  cases q : body ρ1 S <;> rw [q] at h <;> exact h
theorem for_wp {b : Bind} {body : MS} {g : Guard} {items : List D} (I : Nat → Env' → Store → Prop) (h0 : I 0 ρ S) (hg : ∀ i ρ S, I i ρ S → gOk g S)
    (step : ∀ (i : Nat) (d : D) (ρ : Env') (S : Store), items[i]? = some d → I i ρ S → ∃ ρ1, b d ρ = some ρ1 ∧ (body ρ1 S).wp (I (i + 1)) R N (I (i + 1)) X)
    (done : ∀ ρ S, I items.length ρ S → N ρ S) : (forD b body g items ρ S).wp N R B C X := by
  have key : ∀ (rest : List D) (k : Nat) (ρ : Env') (S : Store), k + rest.length = items.length → items.drop k = rest → I k ρ S → (forD b body g rest ρ S).wp N R B C X := by
    intro rest
    induction rest with
    | nil =>
      intro k ρ S hk e h
      have : k = items.length := by simpa using hk
      subst this
      exact forD_nil (hg _ ρ S h) (done ρ S h)
    | cons d rest ih =>
      intro k ρ S hk e h
      have hi : items[k]? = some d := by
        have := List.getElem?_drop (xs := items) (i := k) (j := 0)
        rw [e] at this
        simpa using this.symm
      have hd2 : items.drop (k + 1) = rest := by rw [← List.drop_drop, e]; rfl
      have hk2 : k + 1 + rest.length = items.length := by rw [List.length_cons] at hk; omega
      obtain ⟨ρ1, e1, h1⟩ := step k d ρ S hi h
      exact forD_cons (hg k ρ S h) e1 (h1.imp (fun ρ2 S2 z => ih (k + 1) ρ2 S2 hk2 hd2 z) (fun _ _ z => z) (fun _ _ z => z) (fun ρ2 S2 z => ih (k + 1) ρ2 S2 hk2 hd2 z) fun _ _ _ _ z => z)
  exact key items 0 ρ S (by simp) (by simp) h0
theorem while_wp {c : M Bool} {b : MS} (I : Nat → Env' → Store → Prop)
    (step : ∀ n ρ S, I n ρ S → (c ρ S).wp (fun k S1 => if k = true then (b ρ S1).wp (fun ρ2 S2 => ∃ m, m < n ∧ I m ρ2 S2) R N (fun ρ2 S2 => ∃ m, m < n ∧ I m ρ2 S2) X else N ρ S1) X) :
    ∀ (n : Nat) {ρ : Env'} {S : Store}, I n ρ S → (sWhile c b ρ S).wp N R B C X := by
  intro n
  induction n using Nat.strongRecOn with
  | _ n ih =>
    intro ρ S h
    have h1 := step n ρ S h
    rw [sWhile_eq]
    cases q : c ρ S with
    | fail => rw [q] at h1; exact h1.elim
    | exc _ _ _ _ => rw [q] at h1; exact h1
    | ok k S1 =>
      rw [q, wp_ok] at h1
      rw [s_ok]
      cases k with
      | false => rw [if_neg (by simp)] at h1 ⊢; exact h1
      | true =>
        rw [if_pos rfl] at h1 ⊢
        cases q2 : b ρ S1 with
        | next ρ2 S2 => rw [q2] at h1; obtain ⟨m, hm, z⟩ := h1; exact ih m hm z
        | cont ρ2 S2 => rw [q2] at h1; obtain ⟨m, hm, z⟩ := h1; exact ih m hm z
        | brk _ _ => rw [q2] at h1; exact h1
        | ret _ _ => rw [q2] at h1; exact h1
        | exc _ _ _ _ _ => rw [q2] at h1; exact h1
        | fail => rw [q2] at h1; exact h1.elim
@[simp] theorem x_comp {vs : List Nat} {b : Bind} {mi : M (List D × Guard)} {mt : M Bool} {me : M D} : mComp vs b mi mt me ρ S = (mi ρ S).bind fun p S1 =>
  if p.1.length ≤ sizeLine then (compL b mt me p.2 (wipeE ρ vs) p.1 S1).noX.bind fun es S2 => .ok (.lst es) S2 else .fail := (rfl)
theorem comp_wp {b : Bind} {mt : M Bool} {me : M D} {g : Guard} {ρ0 : Env'} {items : List D} {Q : List D → Store → Prop} {E : XP} (I : Nat → List D → Store → Prop) (h0 : I 0 [] S) (hg : ∀ i es S, I i es S → gOk g S)
    (step : ∀ (i : Nat) (d : D) (es : List D) (S : Store), items[i]? = some d → I i es S → ∃ ρ1, b d ρ0 = some ρ1 ∧ (mt ρ1 S).wp (fun k S1 => if k = true then (me ρ1 S1).wp (fun e S2 => I (i + 1) (es ++ [(box e S2).1]) (box e S2).2) E else I (i + 1) es S1) E)
    (done : ∀ es S, I items.length es S → Q es S) : (compL b mt me g ρ0 items S).wp Q E := by
  have key : ∀ (rest : List D) (k : Nat) (es : List D) (S : Store), k + rest.length = items.length → items.drop k = rest → I k es S → (compL b mt me g ρ0 rest S).wp (fun r S2 => Q (es ++ r) S2) E := by
    intro rest
    induction rest with
    | nil =>
      intro k es S hk e h
      have : k = items.length := by simpa using hk
      subst this
      unfold compL
      rw [if_pos (hg _ es S h), wp_ok, List.append_nil]
      exact done es S h
    | cons d rest ih =>
      intro k es S hk e h
      have hi : items[k]? = some d := by
        have := List.getElem?_drop (xs := items) (i := k) (j := 0)
        rw [e] at this
        simpa using this.symm
      have hd2 : items.drop (k + 1) = rest := by rw [← List.drop_drop, e]; rfl
      have hk2 : k + 1 + rest.length = items.length := by rw [List.length_cons] at hk; omega
      obtain ⟨ρ1, e1, h1⟩ := step k d es S hi h
      unfold compL
      rw [if_pos (hg k es S h), e1]
      dsimp only
      rw [wp_bind]
      refine h1.imp (fun q S1 z => ?_) fun _ _ _ _ z => z
      cases q with
      | false =>
        rw [if_neg (by simp)] at z ⊢
        exact ih (k + 1) es S1 hk2 hd2 z
      | true =>
        rw [if_pos rfl] at z ⊢
        rw [wp_bind]
        refine z.imp (fun e2 S2 z2 => ?_) fun _ _ _ _ z => z
        rw [wp_bind]
        have z3 := ih (k + 1) _ _ hk2 hd2 z2
        refine z3.imp (fun r S3 z4 => ?_) fun _ _ _ _ z => z
        rw [List.append_assoc] at z4
        exact z4
  have := key items 0 [] S (by simp) (by simp) h0
  exact this
end

/-! ### a state of three ints (or one), in a cell of the store -/
/-- only the k-th cell is another one, of three ints -/
def Dg (k : Nat) (S S' : Store) : Prop := S' = S ∨ ∃ a b c : Int, S' = S.set k (.lst [.int a, .int b, .int c])
section
variable {k : Nat} {S S' S2 T : Store} {d : D}
theorem Dg.refl : Dg k S S := .inl rfl
theorem Dg.len (h : Dg k S S') : S'.length = S.length := by
  rcases h with rfl | ⟨_, _, _, rfl⟩
  · rfl
  · rw [List.length_set]
theorem Dg.set {a b c : Int} : Dg k S (S.set k (.lst [.int a, .int b, .int c])) := .inr ⟨a, b, c, rfl⟩
theorem Dg.trans (h : Dg k S S') (h2 : Dg k S' S2) : Dg k S S2 := by
  rcases h2 with rfl | ⟨a, b, c, rfl⟩
  · exact h
  · rcases h with rfl | ⟨_, _, _, rfl⟩
    · exact .set
    · rw [List.set_set]; exact .set
theorem Dg.get {j : Nat} (h : Dg k S S') (hj : j ≠ k) : S'[j]? = S[j]? := by
  rcases h with rfl | ⟨_, _, _, rfl⟩
  · rfl
  · rw [List.getElem?_set, if_neg (fun e => hj e.symm)]
theorem Dg.clean (h : Dg k S S') : Clean S S' := fun j hj => by
  rcases h with rfl | ⟨a, b, c, rfl⟩
  · exact .inl rfl
  · rw [List.getElem?_set]
    by_cases e : k = j
    · rw [if_pos e, if_pos (by omega)]
      refine .inr ⟨_, rfl, loL_of fun d hd => ?_⟩
      have hd : d ∈ [D.int a, D.int b, D.int c] := hd
      simp only [List.mem_cons, List.not_mem_nil, or_false] at hd
      rcases hd with rfl | rfl | rfl <;> exact lo_int
    · rw [if_neg e]; exact .inl rfl
theorem Clean.more (h : Clean S S') (hl : S'.length = S.length) : Clean S (S' ++ T) := fun j hj => by
  rw [List.getElem?_append_left (by omega)]; exact h j hj
theorem closeR_dg {Q : D → Store → Prop} (h : Dg k S S') (hl : d.lo S'.length = true) (q : Q d S') : closeR S Q d (S' ++ T) := by
  have e := h.len
  rw [e] at hl
  refine closeR_eq (r := d) (S3 := S') ?_ q
  unfold closeD
  rw [if_pos (h.clean.more e), if_pos hl, List.take_append_of_le_length (by omega), List.take_of_length_le (by omega)]
theorem closeR_dg0 {Q : D → Store → Prop} (h : Dg k S S') (hl : d.lo S'.length = true) (q : Q d S') : closeR S Q d S' := by
  have := closeR_dg (T := []) (Q := Q) h hl q
  rwa [List.append_nil] at this
/-- a new list is handed back -/
theorem closeR_dgN {Q : D → Store → Prop} {j : Nat} {ds : List D} (h : Dg k S S') (hj : T[j]? = some (.lst ds)) (hl : loL S'.length ds = true) (q : Q (.lst ds) S') : closeR S Q (.ref (S'.length + j)) (S' ++ T) := by
  have e := h.len
  rw [e] at hl
  refine closeR_eq (r := .lst ds) (S3 := S') ?_ q
  unfold closeD
  rw [if_pos (h.clean.more e), if_neg (by unfold D.lo; simp; omega)]
  dsimp only
  rw [getT, hj]
  dsimp only
  have hc : (Cell.lst ds).lo S.length = true := hl
  rw [if_pos hc, List.take_append_of_le_length (by omega), List.take_of_length_le (by omega)]
  rfl
end
end Ev
/-! Ev19: == of plain data. -/
namespace Ev
open PySem PySem.Spec PyProof.Rows L2
mutual
/-- plain data, no deeper than n; nb: without truths -/
def D.pl (nb : Bool) : Nat → D → Bool
  | _, .non => true
  | _, .bl _ => !nb
  | _, .int _ => true
  | _, .str x => PyData.strOk x
  | 0, .tup _ => false
  | n + 1, .tup ds => plL nb n ds
  | _, .ptup _ => false
  | _, .ref _ => false
  | _, .fro _ => false
  | _, .lst _ => false
  | _, .obj _ _ _ => false
  | _, .dk _ _ => false
  | _, .dt _ _ => false
  | _, .exn _ _ _ _ => false
def plL (nb : Bool) : Nat → List D → Bool
  | _, [] => true
  | n, d :: ds => D.pl nb n d && plL nb n ds
end
mutual
def toP : D → PyData
  | .bl b => .bool b
  | .int i => .int i
  | .str x => .str x
  | .tup ds => .tuple (toPL ds)
  | _ => .none
def toPL : List D → List PyData
  | [] => []
  | d :: ds => toP d :: toPL ds
end
theorem plL_mem {nb : Bool} {n : Nat} : ∀ {ds : List D}, plL nb n ds = true ↔ ∀ d ∈ ds, d.pl nb n = true
  | [] => by unfold plL; simp
  | d :: ds => by unfold plL; rw [Bool.and_eq_true, plL_mem]; simp
mutual
theorem py_pl {nb : Bool} {S : Store} : ∀ (d : D) (n k : Nat), n < k → d.pl nb n = true → py S k d = some (toP d)
  | .non, _, k + 1, _, _ => rfl
  | .bl _, _, k + 1, _, _ => rfl
  | .int _, _, k + 1, _, _ => rfl
  | .str _, _, k + 1, _, _ => rfl
  | .tup ds, n + 1, k + 1, hk, h => by
    unfold D.pl at h
    show (ds.mapM (py S k)).map PyData.tuple = _
    rw [py_plL ds n k (by omega) h]; rfl
  | .tup ds, 0, k + 1, _, h => by unfold D.pl at h; cases h
  | .ptup ds, n, k + 1, _, h => by unfold D.pl at h; cases h
  | .ref ds, n, k + 1, _, h => by unfold D.pl at h; cases h
  | .fro ds, n, k + 1, _, h => by unfold D.pl at h; cases h
  | .lst ds, n, k + 1, _, h => by unfold D.pl at h; cases h
  | .obj _ _ ds, n, k + 1, _, h => by unfold D.pl at h; cases h
  | .dk _ ds, n, k + 1, _, h => by unfold D.pl at h; cases h
  | .dt _ ds, n, k + 1, _, h => by unfold D.pl at h; cases h
  | .exn _ _ _ ds, n, k + 1, _, h => by unfold D.pl at h; cases h
theorem py_plL {nb : Bool} {S : Store} : ∀ (ds : List D) (n k : Nat), n < k → plL nb n ds = true → ds.mapM (py S k) = some (toPL ds)
  | [], _, _, _, _ => rfl
  | d :: ds, n, k, hk, h => by
    unfold plL at h
    rw [Bool.and_eq_true] at h
    rw [List.mapM_cons, py_pl d n k hk h.1, py_plL ds n k hk h.2]
    rfl
end
mutual
theorem shp_pl {nb : Bool} : ∀ (d : D) (n : Nat), d.pl nb n = true → (toP d).canLay0 = true ∧ (toP d).depth ≤ n
  | .non, _, _ => by unfold toP PyData.canLay0 PyData.depth; exact ⟨rfl, Nat.zero_le _⟩
  | .bl _, _, _ => by unfold toP PyData.canLay0 PyData.depth; exact ⟨rfl, Nat.zero_le _⟩
  | .int _, _, _ => by unfold toP PyData.canLay0 PyData.depth; exact ⟨rfl, Nat.zero_le _⟩
  | .str _, n, h => by unfold D.pl at h; unfold toP PyData.canLay0 PyData.depth; exact ⟨h, Nat.zero_le _⟩
  | .tup ds, n + 1, h => by
    unfold D.pl at h
    obtain ⟨h1, h2⟩ := shp_plL ds n h
    unfold toP PyData.canLay0 PyData.depth
    exact ⟨h1, by omega⟩
  | .tup ds, 0, h => by unfold D.pl at h; cases h
  | .ptup ds, n, h => by unfold D.pl at h; cases h
  | .ref ds, n, h => by unfold D.pl at h; cases h
  | .fro ds, n, h => by unfold D.pl at h; cases h
  | .lst ds, n, h => by unfold D.pl at h; cases h
  | .obj _ _ ds, n, h => by unfold D.pl at h; cases h
  | .dk _ ds, n, h => by unfold D.pl at h; cases h
  | .dt _ ds, n, h => by unfold D.pl at h; cases h
  | .exn _ _ _ ds, n, h => by unfold D.pl at h; cases h
theorem shp_plL {nb : Bool} : ∀ (ds : List D) (n : Nat), plL nb n ds = true → PyData.canLayAll0 (toPL ds) = true ∧ PyData.depthAll (toPL ds) ≤ n
  | [], _, _ => by unfold toPL PyData.canLayAll0 PyData.depthAll; exact ⟨rfl, Nat.zero_le _⟩
  | d :: ds, n, h => by
    unfold plL at h
    rw [Bool.and_eq_true] at h
    obtain ⟨h1, h2⟩ := shp_pl d n h.1
    obtain ⟨h3, h4⟩ := shp_plL ds n h.2
    unfold toPL PyData.canLayAll0 PyData.depthAll
    exact ⟨by rw [h1, h3]; rfl, by omega⟩
end
theorem eqD_pl {nb nb' : Bool} {S : Store} {d e : D} {n : Nat} (hn : n ≤ 64) (h1 : d.pl nb n = true) (h2 : e.pl nb' n = true) : eqD S d e = some (PyData.eqv (toP d) (toP e)) := by
  obtain ⟨c1, c2⟩ := shp_pl d n h1
  obtain ⟨c3, c4⟩ := shp_pl e n h2
  unfold eqD
  rw [py_pl d n 66 (by omega) h1, py_pl e n 66 (by omega) h2]
  dsimp only
  have z : ∀ p : PyData, p.canLay0 = true → p.depth ≤ n → SeqAt.shaped p = true := fun p a b => by
    unfold SeqAt.shaped; rw [a, decide_eq_true (by omega : p.depth ≤ 64)]; rfl
  rw [if_pos ⟨z _ c1 c2, z _ c3 c4⟩]
mutual
theorem eqv_refl : ∀ d : D, PyData.eqv (toP d) (toP d) = true
  | .non => by unfold toP PyData.eqv; rfl
  | .bl b => by unfold toP PyData.eqv; simp
  | .int _ => by unfold toP PyData.eqv; simp
  | .str _ => by unfold toP PyData.eqv; simp
  | .tup ds => by unfold toP PyData.eqv; exact eqvL_refl ds
  | .ptup ds => by unfold toP PyData.eqv; rfl
  | .ref ds => by unfold toP PyData.eqv; rfl
  | .fro ds => by unfold toP PyData.eqv; rfl
  | .lst ds => by unfold toP PyData.eqv; rfl
  | .obj _ _ ds => by unfold toP PyData.eqv; rfl
  | .dk _ ds => by unfold toP PyData.eqv; rfl
  | .dt _ ds => by unfold toP PyData.eqv; rfl
  | .exn _ _ _ ds => by unfold toP PyData.eqv; rfl
theorem eqvL_refl : ∀ ds : List D, PyData.eqvAll (toPL ds) (toPL ds) = true
  | [] => by unfold toPL PyData.eqvAll; rfl
  | d :: ds => by unfold toPL PyData.eqvAll; rw [eqv_refl d, eqvL_refl ds]; rfl
end
/-- alike -/
theorem eqD_same {nb : Bool} {S : Store} {d : D} {n : Nat} (hn : n ≤ 64) (h : d.pl nb n = true) : eqD S d d = some true := by
  rw [eqD_pl hn h h, eqv_refl]
mutual
theorem eqv_inj : ∀ (d e : D) (n m : Nat), d.pl true n = true → e.pl true m = true → PyData.eqv (toP d) (toP e) = true → d = e
  | .non, e, n, m, h1, h2, h => by
    cases e <;> first | rfl | (unfold D.pl at h2; cases h2; done) | (unfold toP PyData.eqv at h; cases h; done)
  | .int i, e, n, m, h1, h2, h => by
    cases e <;> first | (unfold D.pl at h2; cases h2; done) | (unfold toP PyData.eqv at h; cases h; done) | (unfold toP PyData.eqv at h; simp at h; rw [h])
  | .str i, e, n, m, h1, h2, h => by
    cases e <;> first | (unfold toP PyData.eqv at h; cases h; done) | (unfold toP PyData.eqv at h; simp at h; rw [h]) | (unfold D.pl at h2; cases h2; done)
  | .tup ds, e, n, m, h1, h2, h => by
    cases e <;> first
      | (unfold toP PyData.eqv at h; cases h; done)
      | (rename_i es
         cases n with
         | zero => unfold D.pl at h1; cases h1
         | succ n =>
           cases m with
           | zero => unfold D.pl at h2; cases h2
           | succ m =>
             unfold D.pl at h1 h2
             unfold toP PyData.eqv at h
             rw [eqvL_inj ds es n m h1 h2 h])
      | (unfold D.pl at h2; cases h2; done)
  | .bl _, e, n, m, h1, _, _ => by unfold D.pl at h1; cases h1
  | .ptup _, e, n, m, h1, _, _ => by unfold D.pl at h1; cases h1
  | .ref _, e, n, m, h1, _, _ => by unfold D.pl at h1; cases h1
  | .fro _, e, n, m, h1, _, _ => by unfold D.pl at h1; cases h1
  | .lst _, e, n, m, h1, _, _ => by unfold D.pl at h1; cases h1
  | .obj _ _ _, e, n, m, h1, _, _ => by unfold D.pl at h1; cases h1
  | .dk _ _, e, n, m, h1, _, _ => by unfold D.pl at h1; cases h1
  | .dt _ _, e, n, m, h1, _, _ => by unfold D.pl at h1; cases h1
  | .exn _ _ _ _, e, n, m, h1, _, _ => by unfold D.pl at h1; cases h1
theorem eqvL_inj : ∀ (ds es : List D) (n m : Nat), plL true n ds = true → plL true m es = true → PyData.eqvAll (toPL ds) (toPL es) = true → ds = es
  | [], [], _, _, _, _, _ => rfl
  | [], _ :: _, _, _, _, _, h => by unfold toPL PyData.eqvAll at h; cases h
  | _ :: _, [], _, _, _, _, h => by unfold toPL PyData.eqvAll at h; cases h
  | d :: ds, e :: es, n, m, h1, h2, h => by
    unfold plL at h1 h2
    rw [Bool.and_eq_true] at h1 h2
    unfold toPL PyData.eqvAll at h
    rw [Bool.and_eq_true] at h
    rw [eqv_inj d e n m h1.1 h2.1 h.1, eqvL_inj ds es n m h1.2 h2.2 h.2]
end
/-- unlike, without truths -/
theorem eqD_ne {S : Store} {d e : D} {n : Nat} (hn : n ≤ 64) (h1 : d.pl true n = true) (h2 : e.pl true n = true) (h : d ≠ e) : eqD S d e = some false := by
  rw [eqD_pl hn h1 h2]
  cases q : PyData.eqv (toP d) (toP e) with
  | false => rfl
  | true => exact absurd (eqv_inj d e n n h1 h2 q) h
theorem pl_ints {nb : Bool} {n : Nat} {ns : List Int} : plL nb n (ns.map D.int) = true := by
  rw [plL_mem]
  intro d hd
  obtain ⟨i, _, rfl⟩ := List.mem_map.mp hd
  cases n <;> (unfold D.pl; rfl)
mutual
theorem pl_lo {nb : Bool} : ∀ (d : D) (n k : Nat), d.pl nb n = true → d.lo k = true
  | .non, _, _, _ => by unfold D.lo; rfl
  | .bl _, _, _, _ => by unfold D.lo; rfl
  | .int _, _, _, _ => by unfold D.lo; rfl
  | .str _, _, _, _ => by unfold D.lo; rfl
  | .tup ds, n + 1, k, h => by
    unfold D.pl at h
    unfold D.lo; exact pl_loL ds n k h
  | .tup ds, 0, k, h => by unfold D.pl at h; cases h
  | .ptup ds, n, k, h => by unfold D.pl at h; cases h
  | .ref ds, n, k, h => by unfold D.pl at h; cases h
  | .fro ds, n, k, h => by unfold D.pl at h; cases h
  | .lst ds, n, k, h => by unfold D.pl at h; cases h
  | .obj _ _ ds, n, k, h => by unfold D.pl at h; cases h
  | .dk _ ds, n, k, h => by unfold D.pl at h; cases h
  | .dt _ ds, n, k, h => by unfold D.pl at h; cases h
  | .exn _ _ _ ds, n, k, h => by unfold D.pl at h; cases h
theorem pl_loL {nb : Bool} : ∀ (ds : List D) (n k : Nat), plL nb n ds = true → loL k ds = true
  | [], _, _, _ => by unfold loL; rfl
  | d :: ds, n, k, h => by
    unfold plL at h
    rw [Bool.and_eq_true] at h
    unfold loL
    rw [pl_lo d n k h.1, pl_loL ds n k h.2]; rfl
end
end Ev
/-! Ev20: sizes, places, small tools of the plain laws. -/
namespace Ev
open PySem PySem.Spec PyProof.Rows L2
theorem sz_le {n : Nat} (h : n ≤ 100000) : n ≤ sizeLine := Nat.le_trans h (by decide)
theorem sz_lt {n : Nat} (h : n < 100000) : n < sizeLine := Nat.lt_of_lt_of_le h (by decide)
@[simp] theorem szle_0 : (0 ≤ sizeLine) = True := eq_true (sz_le (by decide))
@[simp] theorem szlt_0 : (0 < sizeLine) = True := eq_true (sz_lt (by decide))
@[simp] theorem szle_1 : (1 ≤ sizeLine) = True := eq_true (sz_le (by decide))
@[simp] theorem szlt_1 : (1 < sizeLine) = True := eq_true (sz_lt (by decide))
@[simp] theorem szle_2 : (2 ≤ sizeLine) = True := eq_true (sz_le (by decide))
@[simp] theorem szlt_2 : (2 < sizeLine) = True := eq_true (sz_lt (by decide))
@[simp] theorem szle_3 : (3 ≤ sizeLine) = True := eq_true (sz_le (by decide))
@[simp] theorem szlt_3 : (3 < sizeLine) = True := eq_true (sz_lt (by decide))
@[simp] theorem szle_4 : (4 ≤ sizeLine) = True := eq_true (sz_le (by decide))
@[simp] theorem szlt_4 : (4 < sizeLine) = True := eq_true (sz_lt (by decide))
@[simp] theorem szle_5 : (5 ≤ sizeLine) = True := eq_true (sz_le (by decide))
@[simp] theorem szlt_5 : (5 < sizeLine) = True := eq_true (sz_lt (by decide))
@[simp] theorem szle_6 : (6 ≤ sizeLine) = True := eq_true (sz_le (by decide))
@[simp] theorem szlt_6 : (6 < sizeLine) = True := eq_true (sz_lt (by decide))
@[simp] theorem szle_7 : (7 ≤ sizeLine) = True := eq_true (sz_le (by decide))
@[simp] theorem szlt_7 : (7 < sizeLine) = True := eq_true (sz_lt (by decide))
@[simp] theorem szle_8 : (8 ≤ sizeLine) = True := eq_true (sz_le (by decide))
@[simp] theorem szlt_8 : (8 < sizeLine) = True := eq_true (sz_lt (by decide))
@[simp] theorem szle_9 : (9 ≤ sizeLine) = True := eq_true (sz_le (by decide))
@[simp] theorem szlt_9 : (9 < sizeLine) = True := eq_true (sz_lt (by decide))
@[simp] theorem szle_10 : (10 ≤ sizeLine) = True := eq_true (sz_le (by decide))
@[simp] theorem szlt_10 : (10 < sizeLine) = True := eq_true (sz_lt (by decide))
@[simp] theorem szle_11 : (11 ≤ sizeLine) = True := eq_true (sz_le (by decide))
@[simp] theorem szlt_11 : (11 < sizeLine) = True := eq_true (sz_lt (by decide))
@[simp] theorem szle_12 : (12 ≤ sizeLine) = True := eq_true (sz_le (by decide))
@[simp] theorem szlt_12 : (12 < sizeLine) = True := eq_true (sz_lt (by decide))
@[simp] theorem szle_13 : (13 ≤ sizeLine) = True := eq_true (sz_le (by decide))
@[simp] theorem szlt_13 : (13 < sizeLine) = True := eq_true (sz_lt (by decide))
@[simp] theorem szle_14 : (14 ≤ sizeLine) = True := eq_true (sz_le (by decide))
@[simp] theorem szlt_14 : (14 < sizeLine) = True := eq_true (sz_lt (by decide))
@[simp] theorem szle_15 : (15 ≤ sizeLine) = True := eq_true (sz_le (by decide))
@[simp] theorem szlt_15 : (15 < sizeLine) = True := eq_true (sz_lt (by decide))
@[simp] theorem szle_16 : (16 ≤ sizeLine) = True := eq_true (sz_le (by decide))
@[simp] theorem szlt_16 : (16 < sizeLine) = True := eq_true (sz_lt (by decide))
@[simp] theorem szle_17 : (17 ≤ sizeLine) = True := eq_true (sz_le (by decide))
@[simp] theorem szlt_17 : (17 < sizeLine) = True := eq_true (sz_lt (by decide))
@[simp] theorem szle_18 : (18 ≤ sizeLine) = True := eq_true (sz_le (by decide))
@[simp] theorem szlt_18 : (18 < sizeLine) = True := eq_true (sz_lt (by decide))
@[simp] theorem szle_19 : (19 ≤ sizeLine) = True := eq_true (sz_le (by decide))
@[simp] theorem szlt_19 : (19 < sizeLine) = True := eq_true (sz_lt (by decide))
@[simp] theorem szle_20 : (20 ≤ sizeLine) = True := eq_true (sz_le (by decide))
@[simp] theorem szlt_20 : (20 < sizeLine) = True := eq_true (sz_lt (by decide))
@[simp] theorem szle_21 : (21 ≤ sizeLine) = True := eq_true (sz_le (by decide))
@[simp] theorem szlt_21 : (21 < sizeLine) = True := eq_true (sz_lt (by decide))
@[simp] theorem szle_22 : (22 ≤ sizeLine) = True := eq_true (sz_le (by decide))
@[simp] theorem szlt_22 : (22 < sizeLine) = True := eq_true (sz_lt (by decide))
@[simp] theorem szle_23 : (23 ≤ sizeLine) = True := eq_true (sz_le (by decide))
@[simp] theorem szlt_23 : (23 < sizeLine) = True := eq_true (sz_lt (by decide))
@[simp] theorem szle_24 : (24 ≤ sizeLine) = True := eq_true (sz_le (by decide))
@[simp] theorem szlt_24 : (24 < sizeLine) = True := eq_true (sz_lt (by decide))
@[simp] theorem szle_25 : (25 ≤ sizeLine) = True := eq_true (sz_le (by decide))
@[simp] theorem szlt_25 : (25 < sizeLine) = True := eq_true (sz_lt (by decide))
@[simp] theorem szle_26 : (26 ≤ sizeLine) = True := eq_true (sz_le (by decide))
@[simp] theorem szlt_26 : (26 < sizeLine) = True := eq_true (sz_lt (by decide))
@[simp] theorem szle_27 : (27 ≤ sizeLine) = True := eq_true (sz_le (by decide))
@[simp] theorem szlt_27 : (27 < sizeLine) = True := eq_true (sz_lt (by decide))
@[simp] theorem szle_28 : (28 ≤ sizeLine) = True := eq_true (sz_le (by decide))
@[simp] theorem szlt_28 : (28 < sizeLine) = True := eq_true (sz_lt (by decide))
@[simp] theorem szle_29 : (29 ≤ sizeLine) = True := eq_true (sz_le (by decide))
@[simp] theorem szlt_29 : (29 < sizeLine) = True := eq_true (sz_lt (by decide))
@[simp] theorem szle_30 : (30 ≤ sizeLine) = True := eq_true (sz_le (by decide))
@[simp] theorem szlt_30 : (30 < sizeLine) = True := eq_true (sz_lt (by decide))
/-- the i-th -/
def ati (ns : List Int) (i : Int) : Int := ns[i.toNat]?.getD 0
theorem ati_some {ns : List Int} {i : Int} (h0 : 0 ≤ i) (h1 : i < ns.length) : ns[i.toNat]? = some (ati ns i) := by
  have hi : i.toNat < ns.length := by omega
  unfold ati
  rw [List.getElem?_eq_getElem hi]; rfl
theorem ati_mem {ns : List Int} {i : Int} (h0 : 0 ≤ i) (h1 : i < ns.length) : ati ns i ∈ ns := List.mem_of_getElem? (ati_some h0 h1)
theorem atI_nat {ds : List D} {i : Int} {d : D} (h0 : 0 ≤ i) (h : ds[i.toNat]? = some d) : atI ds i = some d := by
  obtain ⟨k, rfl⟩ := Int.eq_ofNat_of_zero_le h0
  obtain ⟨hk, e⟩ := List.getElem?_eq_some_iff.mp h
  have hk : k < ds.length := hk
  unfold atI ixN
  simp [hk, ← e]
theorem idxT_of {ds : List D} {i : Int} {d : D} {S : Store} (h0 : 0 ≤ i) (h : ds[i.toNat]? = some d) : idxD (.tup ds) (.int i) S = some d := atI_nat h0 h
theorem idxT_int {ns : List Int} {i : Int} {S : Store} (h0 : 0 ≤ i) (h1 : i < ns.length) : idxD (.tup (ns.map D.int)) (.int i) S = some (.int (ati ns i)) :=
  idxT_of h0 (by rw [List.getElem?_map, ati_some h0 h1]; rfl)
@[simp] theorem idxT_0 {d : D} {ds : List D} {S : Store} : idxD (.tup (d :: ds)) (.int 0) S = some d := idxT_of (by decide) rfl
@[simp] theorem idxT_1 {d0 d : D} {ds : List D} {S : Store} : idxD (.tup (d0 :: d :: ds)) (.int 1) S = some d := idxT_of (by decide) rfl
@[simp] theorem idxT_2 {d0 d1 d : D} {ds : List D} {S : Store} : idxD (.tup (d0 :: d1 :: d :: ds)) (.int 2) S = some d := idxT_of (by decide) rfl
@[simp] theorem idxT_3 {d0 d1 d2 d : D} {ds : List D} {S : Store} : idxD (.tup (d0 :: d1 :: d2 :: d :: ds)) (.int 3) S = some d := idxT_of (by decide) rfl
@[simp] theorem idxT_4 {d0 d1 d2 d3 d : D} {ds : List D} {S : Store} : idxD (.tup (d0 :: d1 :: d2 :: d3 :: d :: ds)) (.int 4) S = some d := idxT_of (by decide) rfl
theorem cutT_1 {d : D} {ds : List D} {S : Store} : cutD (.tup (d :: ds)) (some 1) none S = some (.tup ds) := by
  show some (D.tup (cutL (d :: ds) (some ((1 : Nat) : Int)) none)) = _
  rw [cutL_from (by simp)]; rfl
theorem add_tup {xs ys : List D} {S : Store} (h : xs.length + ys.length ≤ sizeLine) : binD .Add (.tup xs) (.tup ys) S = some (.tup (xs ++ ys)) := by
  show (if xs.length + ys.length ≤ sizeLine then some (D.tup (xs ++ ys)) else none) = _
  exact if_pos h
@[simp] theorem lo_ptup {n : Nat} {ds : List D} : (D.ptup ds).lo n = loL n ds := by unfold D.lo; rfl
@[simp] theorem loL_nil {n : Nat} : loL n [] = true := by unfold loL; rfl
@[simp] theorem loL_cons {n : Nat} {d : D} {ds : List D} : loL n (d :: ds) = (d.lo n && loL n ds) := by conv => lhs; unfold loL
theorem eqD_str {nb : Bool} {S : Store} {x y : Str} (h1 : PyData.strOk x = true) (h2 : PyData.strOk y = true) : eqD S (.str x) (.str y) = some (decide (x = y)) := by
  by_cases h : x = y
  · subst h; rw [eqD_same (nb := true) (n := 0) (by decide) (by unfold D.pl; exact h1)]; simp
  · rw [eqD_ne (n := 0) (by decide) (by unfold D.pl; exact h1) (by unfold D.pl; exact h2) (by simpa using h)]; simp [h]
theorem closeR_app {S T : Store} {Q : D → Store → Prop} {d : D} (h : d.lo S.length = true) (q : Q d S) : closeR S Q d (S ++ T) := closeR_eq (closeD_app h) q
theorem closeR_same {S : Store} {Q : D → Store → Prop} {d : D} (q : Q d S) : closeR S Q d S := closeR_eq closeD_same q
@[simp] theorem lo_lst {n : Nat} {ds : List D} : (D.lst ds).lo n = loL n ds := by unfold D.lo; rfl
@[simp] theorem box_ptup {ds : List D} {S : Store} : box (.ptup ds) S = (.ptup ds, S) := rfl
theorem dv2 : ((0 : Int) < 2 ∧ (2 : Int).natAbs.log2 < 9000) = True := eq_true (by decide)
theorem md2 : ((0 : Int) < 2) = True := eq_true (by decide)
/-- what is only in the last cell -/
theorem Dg.tail {S U : Store} {c : Cell} (h : Dg S.length (S ++ [c]) U) : ∃ c', U = S ++ [c'] := by
  rcases h with rfl | ⟨x, y, z, rfl⟩
  · exact ⟨c, rfl⟩
  · exact ⟨_, setT0⟩
theorem iota_in {n : Nat} {z : Int} : z ∈ iota n ↔ 0 ≤ z ∧ z < n := by
  unfold iota
  simp only [List.mem_map, List.mem_range]
  constructor
  · rintro ⟨k, hk, rfl⟩; omega
  · rintro ⟨h0, h1⟩; exact ⟨z.toNat, by omega, by omega⟩
theorem iota_nd {n : Nat} : (iota n).Nodup := by
  unfold iota
  rw [List.nodup_iff_pairwise_ne, List.pairwise_map]
  exact List.nodup_range.imp fun {a b} h e => h (by omega)
theorem ati_iota {n : Nat} {i : Int} (h0 : 0 ≤ i) (h1 : i < n) : ati (iota n) i = i := by
  unfold ati iota
  rw [List.getElem?_map, List.getElem?_range (by omega : i.toNat < n)]
  show ((i.toNat : Nat) : Int) = i
  omega
theorem ati_map {ns : List Int} {f : Int → Int} {i : Int} (h0 : 0 ≤ i) (h1 : i < ns.length) : ati (ns.map f) i = f (ati ns i) := by
  have := ati_some h0 h1
  unfold ati at this ⊢
  rw [List.getElem?_map, this]; rfl
/-- a renaming's places -/
theorem perm_len {n : Nat} {p : List Int} (h : p.Perm (iota n)) : p.length = n := by rw [h.length_eq, iota_len]
theorem perm_ati {n : Nat} {p : List Int} (h : p.Perm (iota n)) {i : Int} (h0 : 0 ≤ i) (h1 : i < n) : 0 ≤ ati p i ∧ ati p i < n :=
  iota_in.mp (h.mem_iff.mp (ati_mem h0 (by rw [perm_len h]; exact h1)))
theorem perm_nodup {n : Nat} {p : List Int} (h : p.Perm (iota n)) : p.Nodup := (h.nodup_iff).mpr iota_nd
theorem idxOf_ati {p : List Int} {i : Int} (hd : p.Nodup) (h0 : 0 ≤ i) (h1 : i < p.length) : (p.idxOf (ati p i) : Int) = i := by
  have hi : i.toNat < p.length := by omega
  have e : ati p i = p[i.toNat] := by unfold ati; rw [List.getElem?_eq_getElem hi]; rfl
  rw [e, hd.idxOf_getElem]; omega
theorem ati_idxOf {p : List Int} {z : Int} (h : z ∈ p) : ati p (p.idxOf z : Nat) = z := by
  have hi : p.idxOf z < p.length := List.idxOf_lt_length_of_mem h
  unfold ati
  rw [Int.toNat_natCast, List.getElem?_eq_getElem hi]
  simp
end Ev
/-! Ev21: renamings (lists that are iota n turned). -/
namespace Ev
open PySem PySem.Spec PyProof.Rows L2
theorem map_ati_iota {n : Nat} {q : List Int} (lq : q.length = n) : (iota n).map (ati q) = q := by
  refine List.ext_getElem (by rw [List.length_map, iota_len, lq]) fun i h1 h2 => ?_
  rw [List.getElem_map]
  have hi : i < n := by rw [lq] at h2; exact h2
  have : (iota n)[i]'(by rw [iota_len]; exact hi) = (i : Int) := by unfold iota; simp
  rw [this]
  unfold ati
  rw [Int.toNat_natCast, List.getElem?_eq_getElem h2]; rfl
theorem comp_perm {n : Nat} {p q : List Int} (hp : p.Perm (iota n)) (hq : q.Perm (iota n)) : (p.map (ati q)).Perm (iota n) :=
  (hp.map (ati q)).trans (by rw [map_ati_iota (perm_len hq)]; exact hq)
theorem comp_ati {n : Nat} {p q : List Int} (hp : p.Perm (iota n)) {z : Int} (h0 : 0 ≤ z) (h1 : z < n) : ati (p.map (ati q)) z = ati q (ati p z) := ati_map h0 (by rw [perm_len hp]; exact h1)
/-- undone -/
def bk (n : Nat) (p : List Int) : List Int := (iota n).map fun z => (p.idxOf z : Nat)
theorem bk_ati {n : Nat} {p : List Int} (hp : p.Perm (iota n)) {z : Int} (h0 : 0 ≤ z) (h1 : z < n) : ati (bk n p) (ati p z) = z := by
  obtain ⟨a, b⟩ := perm_ati hp h0 h1
  unfold bk
  rw [ati_map a (by rw [iota_len]; exact b), ati_iota a b]
  exact idxOf_ati (perm_nodup hp) h0 (by rw [perm_len hp]; exact h1)
theorem ati_bk {n : Nat} {p : List Int} (hp : p.Perm (iota n)) {z : Int} (h0 : 0 ≤ z) (h1 : z < n) : 0 ≤ ati (bk n p) z ∧ ati (bk n p) z < n ∧ ati p (ati (bk n p) z) = z := by
  unfold bk
  rw [ati_map h0 (by rw [iota_len]; exact h1), ati_iota h0 h1]
  have hz : z ∈ p := hp.mem_iff.mpr (iota_in.mpr ⟨h0, h1⟩)
  have := List.idxOf_lt_length_of_mem hz
  rw [perm_len hp] at this
  exact ⟨by omega, by omega, ati_idxOf hz⟩
theorem bk_len {n : Nat} {p : List Int} : (bk n p).length = n := by unfold bk; rw [List.length_map, iota_len]
theorem bk_perm {n : Nat} {p : List Int} (hp : p.Perm (iota n)) : (bk n p).Perm (iota n) := by
  have hd : (bk n p).Nodup := by
    unfold bk
    rw [List.nodup_iff_pairwise_ne, List.pairwise_map]
    refine (List.Pairwise.and_mem.mp ((List.nodup_iff_pairwise_ne).mp (iota_nd (n := n)))).imp ?_
    rintro a b ⟨ha, hb, hne⟩ e
    apply hne
    have ha' : a ∈ p := hp.mem_iff.mpr ha
    have hb' : b ∈ p := hp.mem_iff.mpr hb
    have e' : p.idxOf a = p.idxOf b := by omega
    rw [← ati_idxOf ha', ← ati_idxOf hb', e']
  refine (List.perm_ext_iff_of_nodup hd iota_nd).mpr fun a => ?_
  constructor
  · intro h
    unfold bk at h
    obtain ⟨z, hz, rfl⟩ := List.mem_map.mp h
    have hz' : z ∈ p := hp.mem_iff.mpr hz
    have := List.idxOf_lt_length_of_mem hz'
    rw [perm_len hp] at this
    exact iota_in.mpr ⟨by omega, by omega⟩
  · intro h
    obtain ⟨h0, h1⟩ := iota_in.mp h
    obtain ⟨a0, a1⟩ := perm_ati hp h0 h1
    rw [← bk_ati hp h0 h1]
    exact ati_mem a0 (by rw [bk_len]; exact a1)
theorem cutL_sub {α : Type} {xs : List α} {lo hi : Option Int} {x : α} (h : x ∈ cutL xs lo hi) : x ∈ xs := by
  unfold cutL at h
  exact List.mem_of_mem_drop (List.mem_of_mem_take h)
end Ev
/-! Ev22: dicts of ints and texts, constants of the top, extend, len(set(..)), what is never reached. -/
namespace Ev
open PySem PySem.Spec PyProof.Rows L2
section
variable {X : Cx} {W : WX}
/-! ### never reached -/
def mDead {α : Type} : M α := fun _ _ => .fail
def sDead : MS := fun _ _ => .fail
theorem ev_dead {e : Expr} : EvE X W e mDead := ⟨fun _ _ _ _ _ _ _ _ _ _ F => F.elim⟩
theorem evt_dead {e : Expr} : EvT X W e mDead := ⟨fun _ _ _ _ _ _ _ _ _ _ F => F.elim⟩
theorem evs_dead {s : Stmt} : EvS X W s sDead := ⟨fun _ _ _ _ _ _ ⟨_, _, _, _, _, G⟩ => G.elim⟩

/-! ### constants of the top -/
theorem ev_gint {x : Str} {i : Int} {pos : Pos} (hg : Gl X x) (hm : ∃ t, X.mg x = some (.int i t)) (hd : (x == ("__debug__" : Str)) = false) : EvE X W (.Name x pos) (mLit (.int i)) := by
  obtain ⟨t, hm⟩ := hm
  exact EvE.of_pe (pe_glob (v := .int i) hg hm ⟨t, rfl⟩ hd) fun σ H μ S ρ R E F => ⟨.int i, S, μ, rfl, Step.refl R, ResOk.plain (by unfold Rep; rfl)⟩
theorem ev_gstr {x : Str} {i : Str} {pos : Pos} (hg : Gl X x) (hm : ∃ t, X.mg x = some (.str i t)) (hd : (x == ("__debug__" : Str)) = false) : EvE X W (.Name x pos) (mLit (.str i)) := by
  obtain ⟨t, hm⟩ := hm
  exact EvE.of_pe (pe_glob (v := .str i) hg hm ⟨t, rfl⟩ hd) fun σ H μ S ρ R E F => ⟨.str i, S, μ, rfl, Step.refl R, ResOk.plain (by unfold Rep; rfl)⟩
/-- a dict of the top with texts for keys: what stands at these keys (none: no such key) -/
structure CDic (K : PySem.W.Frag) (w : World) (a : Addr) (tb : List (Str × Option D)) : Prop where
  is : ∃ es n, KDict K w a es n
  has : ∀ k d, tb.lookup k = some (some d) → ∃ u v, PySem.W.nsIn K a k = some (some u) ∧ RelV v u ∧ d.cell? = none ∧ ∀ μ H, Rep K μ H d v
  no : ∀ k, tb.lookup k = some none → PySem.W.nsIn K a k = some none
def cgetD (tb : List (Str × Option D)) : D → Option D
  | .str k => match tb.lookup k with
    | some (some d) => some d
    | _ => none
  | _ => none
def cinD (neg : Bool) (tb : List (Str × Option D)) : D → Option D
  | .str k => match tb.lookup k with
    | some r => some (.bl (if neg then !r.isSome else r.isSome))
    | none => none
  | _ => none
def mUn (g : D → Option D) (m : M D) : M D := fun ρ S => (m ρ S).bind fun d S1 => Out.of (g d) S1
theorem ev_cget {x : Str} {a : Addr} {tb : List (Str × Option D)} {b : Expr} {m : M D} {p pos : Pos} (hg : Gl X x) (hm : X.mg x = some (.ref a)) (C : CDic X.K X.w a tb) (hb : EvE X W b m) (hs : notSlice b = true) (hd : (x == ("__debug__" : Str)) = false) :
    EvE X W (.Subscript (.Name x p) b pos) (mUn (cgetD tb) m) := by
  refine EvE.of_pe (pe_ix ix_kdict (pe_glob (v := .ref a) hg hm rfl hd) hb.pe (plainIx_of hs)) fun σ H μ S ρ R E F => ?_
  unfold mUn at F ⊢
  refine tm1 R E F fun d S1 v μ1 H1 e st r R1 E1 F1 => ?_
  obtain ⟨res, er⟩ := fine_of F1
  have er0 := er
  unfold cgetD at er
  split at er
  · rename_i k
    split at er
    · rename_i d' hl
      cases er
      obtain ⟨u, v', hn, rv, hc, hR⟩ := C.has _ _ hl
      obtain ⟨es, n, kd⟩ := C.is
      exact ⟨a, k, v', rfl, rep_str r, ⟨es, n, u, kd.at_, kd.lit, hn, rv⟩, _, S1, μ1, by rw [e, bind_ok, er0]; rfl, st, ResOk.plain (hR _ _)⟩
    · cases er
  · cases er
theorem ev_cin {x : Str} {a : Addr} {tb : List (Str × Option D)} {b : Expr} {m : M D} {p pos : Pos} (hg : Gl X x) (hm : X.mg x = some (.ref a)) (C : CDic X.K X.w a tb) (hb : EvE X W b m) (hd : (x == ("__debug__" : Str)) = false) :
    EvE X W (.Compare b [.In] [.Name x p] pos) (mUn (cinD false tb) m) := by
  obtain ⟨es, n, kd⟩ := C.is
  refine EvE.of_pe (pe_cmpR (op_in_kd kd) hb.pe (pe_glob (v := .ref a) hg hm rfl hd) rfl) fun σ H μ S ρ R E F => ?_
  unfold mUn at F ⊢
  refine tm1 R E F fun d S1 v μ1 H1 e st r R1 E1 F1 => ?_
  obtain ⟨res, er⟩ := fine_of F1
  have er0 := er
  unfold cinD at er
  split at er
  · rename_i k
    split at er
    · rename_i d' hl
      cases er
      cases d' with
      | none => exact ⟨k, none, rep_str r, rfl, C.no _ hl, _, S1, μ1, by rw [e, bind_ok, er0]; rfl, st, ResOk.plain (by unfold Rep; rfl)⟩
      | some d' =>
        obtain ⟨u, v', hn, _⟩ := C.has _ _ hl
        exact ⟨k, some u, rep_str r, rfl, hn, _, S1, μ1, by rw [e, bind_ok, er0]; rfl, st, ResOk.plain (by unfold Rep; rfl)⟩
    · cases er
  · cases er
theorem ev_cnotin {x : Str} {a : Addr} {tb : List (Str × Option D)} {b : Expr} {m : M D} {p pos : Pos} (hg : Gl X x) (hm : X.mg x = some (.ref a)) (C : CDic X.K X.w a tb) (hb : EvE X W b m) (hd : (x == ("__debug__" : Str)) = false) :
    EvE X W (.Compare b [.NotIn] [.Name x p] pos) (mUn (cinD true tb) m) := by
  obtain ⟨es, n, kd⟩ := C.is
  refine EvE.of_pe (pe_cmpR (op_notIn_kd kd) hb.pe (pe_glob (v := .ref a) hg hm rfl hd) rfl) fun σ H μ S ρ R E F => ?_
  unfold mUn at F ⊢
  refine tm1 R E F fun d S1 v μ1 H1 e st r R1 E1 F1 => ?_
  obtain ⟨res, er⟩ := fine_of F1
  have er0 := er
  unfold cinD at er
  split at er
  · rename_i k
    split at er
    · rename_i d' hl
      cases er
      cases d' with
      | none => exact ⟨k, none, rep_str r, rfl, C.no _ hl, _, S1, μ1, by rw [e, bind_ok, er0]; rfl, st, ResOk.plain (by unfold Rep; rfl)⟩
      | some d' =>
        obtain ⟨u, v', hn, _⟩ := C.has _ _ hl
        exact ⟨k, some u, rep_str r, rfl, hn, _, S1, μ1, by rw [e, bind_ok, er0]; rfl, st, ResOk.plain (by unfold Rep; rfl)⟩
    · cases er
  · cases er
end

/-! ### dicts -/
def keyD : D → Option Key
  | .int i => some (.inl i)
  | .str x => some (.inr x)
  | _ => none
def lookK (k : Key) : List Key → List D → Option D
  | k' :: ks, d :: ds => if k' = k then some d else lookK k ks ds
  | _, _ => none
def dictK (S : Store) : D → Option (List Key × List D)
  | .dk ks ds => some (ks, ds)
  | .ref n => match S[n]? with
    | some (.dk ks ds) => some (ks, ds)
    | _ => none
  | _ => none
section
variable {K : PySem.W.Frag} {mg : Str → Option Value} {μ : List Addr} {H0 H : Hp} {S : Store} {d : D} {v : V} {ks : List Key} {ds : List D}
theorem lookK_ok {k : Key} : ∀ {ks : List Key} {ds : List D} {vs : List V}, ks.length = ds.length → RepL K μ H ds vs → match lookK k ks ds with
    | some d => ∃ v, valV (ks.zip vs) k = some v ∧ Rep K μ H d v
    | none => valV (ks.zip vs) k = none
  | [], [], vs, _, r => by rw [RepL.nil_iff] at r; subst r; rfl
  | k' :: ks, d :: ds, vs, hl, r => by
    obtain ⟨v, w, rfl, r1, r2⟩ := RepL.cons_iff.mp r
    unfold lookK
    rw [List.zip_cons_cons]
    by_cases h : k' = k
    · rw [if_pos h]
      exact ⟨v, valV_pos h, r1⟩
    · rw [if_neg h, valV_neg h]
      exact lookK_ok (by simpa using hl) r2
  | [], _ :: _, _, hl, _ => by simp at hl
  | _ :: _, [], _, hl, _ => by simp at hl
theorem dictK_ok (R : Rel K mg μ S H) (x : ResOk K mg μ H0 H d v) (h : dictK S d = some (ks, ds)) : ∃ a vs, v = .ref a ∧ H a = some (.dK (ks.zip vs)) ∧ ks.length = ds.length ∧ RepL K μ H ds vs := by
  cases d with
  | dk ks' ds' =>
    cases h
    unfold ResOk at x
    obtain ⟨a, rfl, ⟨C, dx, vs, _, h2, h3, h4⟩, _⟩ := x
    exact ⟨a, vs, rfl, h2, h3, h4⟩
  | ref n =>
    unfold dictK at h
    dsimp only at h
    split at h
    · rename_i hn
      cases h
      have x := x.rep rfl
      unfold Rep at x
      obtain ⟨a, ha, rfl⟩ := x
      obtain ⟨C, dx, vs, _, h2, h3, h4⟩ := R.cell n a _ ha hn
      exact ⟨a, vs, rfl, h2, h3, h4⟩
    · cases h
  | _ => cases h
theorem keyD_ok {k : Key} (x : ResOk K mg μ H0 H d v) (h : keyD d = some k) : v = kV k := by
  cases d with
  | int i => cases h; exact rep_int x
  | str i => cases h; exact rep_str x
  | _ => cases h
theorem Rep.pokeD {p : Addr} {xs ys : List (Key × V)} (R : Rel K mg μ S H) (h : H p = some (.dK xs)) (hp : p ∉ μ) {d : D} {v : V} (r : Rep K μ H d v) : Rep K μ (upd H p (.dK ys)) d v := by
  have hw : ∀ a ∈ μ ++ [p], Wr H a := fun a ha => by
    rcases List.mem_append.mp ha with z | z
    · exact R.wr a z
    · simp at z; subst z; exact .inr (.inr (.inl ⟨xs, h⟩))
  have k : Keep (μ ++ [p]) H (upd H p (.dK ys)) := fun a o e hn => by
    rw [upd_ne (fun z => hn (by rw [z]; simp))]; exact e
  have r1 : Rep K (μ ++ [p]) H d v := r.mono R.wr Keep.refl
  have r2 : Rep K (μ ++ [p] ++ []) (upd H p (.dK ys)) d v := r1.mono hw k
  rw [List.append_nil] at r2
  exact r2.cut r.lo
theorem RepL.pokeD {p : Addr} {xs ys : List (Key × V)} (R : Rel K mg μ S H) (h : H p = some (.dK xs)) (hp : p ∉ μ) {ds : List D} : ∀ {vs : List V}, RepL K μ H ds vs → RepL K μ (upd H p (.dK ys)) ds vs := by
  induction ds with
  | nil => intro vs r; rw [RepL.nil_iff] at r ⊢; exact r
  | cons d ds ih =>
    intro vs r
    obtain ⟨w, ws, rfl, r1, r2⟩ := RepL.cons_iff.mp r
    exact RepL.cons (r1.pokeD R h hp) (ih r2)
theorem Rel.pokeD {p : Addr} {xs ys : List (Key × V)} (R : Rel K mg μ S H) (h : H p = some (.dK xs)) (hp : p ∉ μ) : Rel K mg μ S (upd H p (.dK ys)) := by
  refine ⟨R.nd, R.len, fun n a c h1 h2 => ?_⟩
  obtain ⟨C, dx, vs, q1, q2, q3, q4⟩ := R.cell n a c h1 h2
  have hm : a ∈ μ := List.mem_of_getElem? h1
  exact ⟨C, dx, vs, q1, by rw [upd_ne (fun z => hp (by rw [← z]; exact hm))]; exact q2, q3, q4.pokeD R h hp⟩
end
def dgetD (d e : D) (S : Store) : Option D := match dictK S d, keyD e with
  | some (ks, ds), some k => lookK k ks ds
  | _, _ => none
def dinD (neg : Bool) (e d : D) (S : Store) : Option D := match dictK S d, keyD e with
  | some (ks, ds), some k => some (.bl (if neg then !(lookK k ks ds).isSome else (lookK k ks ds).isSome))
  | _, _ => none
section
variable {X : Cx} {W : WX}
theorem noSl_of {b : Expr} (h : notSlice b = true) : NoSl b := fun o i => by
  cases b <;> first | rfl | cases h
theorem ev_dget {a b : Expr} {ma mb : M D} {pos : Pos} (hu : X.A.units + 64 < cLine) (ha : EvE X W a ma) (hb : EvE X W b mb) (hs : notSlice b = true) : EvE X W (.Subscript a b pos) (mBin dgetD ma mb) := by
  refine EvE.of_pe (pe_dget (by omega) ha.pe hb.pe (noSl_of hs)) fun σ H μ S ρ R E F => ?_
  refine tm2 R E F fun d1 d2 S2 v1 v2 μ2 H2 r e st x1 x2 hr => ?_
  unfold dgetD at hr
  split at hr
  · rename_i ks ds k h1 h2
    obtain ⟨a, vs, rfl, hH, hl, rl⟩ := dictK_ok st.rel x1 h1
    have := lookK_ok (k := k) hl rl
    rw [hr] at this
    obtain ⟨v, hv, rv⟩ := this
    rw [keyD_ok x2 h2]
    exact ⟨a, v, rfl, by rw [← hv]; exact DGet.k hH, r, S2, μ2, e, st, ResOk.plain rv⟩
  · cases hr
theorem ev_din {a b : Expr} {ma mb : M D} {pos : Pos} (hu : X.A.units + 64 < cLine) (ha : EvE X W a ma) (hb : EvE X W b mb) (h1 : behindInMarks .In b = false) : EvE X W (.Compare a [.In] [b] pos) (mBin (dinD false) ma mb) := by
  refine EvE.of_pe (pe_cmp (pc_din (by omega) ha.pe hb.pe) h1) fun σ H μ S ρ R E F => ?_
  refine tm2 R E F fun d1 d2 S2 v1 v2 μ2 H2 r e st x1 x2 hr => ?_
  unfold dinD at hr
  split at hr
  · rename_i ks ds k h1 h2
    cases hr
    obtain ⟨a, vs, rfl, hH, hl, rl⟩ := dictK_ok st.rel x2 h1
    have := lookK_ok (k := k) hl rl
    rw [keyD_ok x1 h2]
    refine ⟨a, valV (ks.zip vs) k, rfl, DGet.k hH, _, S2, μ2, e, st, ResOk.plain ?_⟩
    unfold Rep
    cases q : lookK k ks ds with
    | none => rw [q] at this; rw [this]; rfl
    | some d => rw [q] at this; obtain ⟨v, hv, _⟩ := this; rw [hv]; rfl
  · cases hr
theorem ev_dnotin {a b : Expr} {ma mb : M D} {pos : Pos} (hu : X.A.units + 64 < cLine) (ha : EvE X W a ma) (hb : EvE X W b mb) (h1 : behindInMarks .NotIn b = false) : EvE X W (.Compare a [.NotIn] [b] pos) (mBin (dinD true) ma mb) := by
  refine EvE.of_pe (pe_cmp (pc_dnotin (by omega) ha.pe hb.pe) h1) fun σ H μ S ρ R E F => ?_
  refine tm2 R E F fun d1 d2 S2 v1 v2 μ2 H2 r e st x1 x2 hr => ?_
  unfold dinD at hr
  split at hr
  · rename_i ks ds k h1 h2
    cases hr
    obtain ⟨a, vs, rfl, hH, hl, rl⟩ := dictK_ok st.rel x2 h1
    have := lookK_ok (k := k) hl rl
    rw [keyD_ok x1 h2]
    refine ⟨a, valV (ks.zip vs) k, rfl, DGet.k hH, _, S2, μ2, e, st, ResOk.plain ?_⟩
    unfold Rep
    cases q : lookK k ks ds with
    | none => rw [q] at this; rw [this]; rfl
    | some d => rw [q] at this; obtain ⟨v, hv, _⟩ := this; rw [hv]; rfl
  · cases hr
end
end Ev
/-! Ev23: written dicts, update, extend, len(set(..)). -/
namespace Ev
open PySem PySem.Spec PyProof.Rows L2
theorem merge_nodup : ∀ (more kvs : List (Key × V)), (kvs.map (·.1) ++ more.map (·.1)).Nodup → mergeK kvs more = kvs ++ more
  | [], kvs, _ => by rw [List.append_nil]; rfl
  | kv :: more, kvs, h => by
    have e : (kvs.any fun x => decide (x.1 = kv.1)) = false := by
      rw [List.any_eq_false]
      intro x hx
      rw [List.map_cons, List.nodup_append] at h
      have := h.2.2 x.1 (List.mem_map_of_mem hx) kv.1 (by simp)
      simpa using this
    have e2 : putK kvs kv.1 kv.2 = kvs ++ [kv] := by
      unfold putK
      rw [if_neg (by rw [e]; simp)]
    show mergeK (putK kvs kv.1 kv.2) more = _
    rw [e2, merge_nodup more _ (by rw [List.map_append, List.append_assoc]; exact h), List.append_assoc]
    rfl
theorem zip_kV : ∀ (ks : List Key) (vs : List V), (ks.map kV).zip vs = (ks.zip vs).map fun kv => (kV kv.1, kv.2)
  | [], vs => by simp
  | k :: ks, [] => by simp
  | k :: ks, v :: vs => by rw [List.map_cons, List.zip_cons_cons, List.zip_cons_cons, List.map_cons, zip_kV ks vs]
section
variable {X : Cx} {W : WX}
structure EvDs (X : Cx) (W : WX) (keys : List (Option Expr)) (vals : List Expr) (ks : List Key) (ma : M (List D)) : Prop where
  len : keys.length = vals.length
  len2 : ks.length = keys.length
  all : keys.all (·.isSome) = true
  ex : ∀ pos : Pos, ∃ trs, PPs X pos keys vals trs ∧ ∀ (σ : L2.St) (H : Hp) (μ : List Addr) (S : Store) (ρ : Env') (Q : List (V × V) → Hp → Prop), Rel X.K X.mg μ S H → EnvOk X.K μ H ρ σ → Fine X.K X.mg W μ H σ (ma ρ S) →
    (∀ ds S1 vs μ1 H1, ma ρ S = .ok ds S1 → Step X.K X.mg μ H μ1 S1 H1 → RepL X.K μ1 H1 ds vs → vs.length = ks.length → Q ((ks.map kV).zip vs) H1) → tPairs trs σ H Q
def mDNil : M (List D) := fun _ S => .ok [] S
def mDCons (m : M D) (r : M (List D)) : M (List D) := fun ρ S => (m ρ S).bind fun d S1 => (r ρ (box d S1).2).bind fun ds S2 => .ok ((box d S1).1 :: ds) S2
theorem evd_nil : EvDs X W [] [] [] mDNil := ⟨rfl, rfl, rfl, fun pos => ⟨[], pps_nil, fun σ H μ S ρ Q R E F q => q [] S [] μ H rfl (Step.refl R) RepL.nil rfl⟩⟩
theorem evd_cons {x : Str} {j : Nat} {p : Pos} {v : Expr} {keys : List (Option Expr)} {vals : List Expr} {ks : List Key} {m : M D} {r : M (List D)} (hv : EvE X W v m) (hr : EvDs X W keys vals ks r) :
    EvDs X W (some (.Constant (.str x) j p) :: keys) (v :: vals) (.inr x :: ks) (mDCons m r) := by
  refine ⟨by simp [hr.len], by simp [hr.len2], by simp [hr.all], fun pos => ?_⟩
  obtain ⟨trs, hp, ht⟩ := hr.ex pos
  refine ⟨_, pps_cons pe_str hv.pe hp, fun σ H μ S ρ Q R E F q => ?_⟩
  unfold mDCons at F q
  show TM X W m σ H _
  refine ⟨μ, S, ρ, R, E, F.left, fun d S1 y μ1 H1 e st x => ?_⟩
  obtain ⟨μ1', st1, r1, ext, em⟩ := st.box x
  have F1 := Fine.right R st1 (r := Out.ok d (box d S1).2) (f := fun d' S2 => (r ρ S2).bind fun ds S3 => Out.ok ((box d S1).1 :: ds) S3) (a := d) (S1 := (box d S1).2) (by rw [e] at F; exact F) rfl
  refine ht σ H1 μ1' _ ρ _ st1.rel (E.step R st1) F1.left fun ds S2 vs μ2 H2 e2 st2 rl hl => ?_
  refine q ((box d S1).1 :: ds) S2 (y :: vs) μ2 H2 (by rw [e, bind_ok, e2]; rfl) (st1.trans R st2) (RepL.cons (st2.rep st1.rel r1) rl) (by simp [hl])
def mDict (ks : List Key) (ma : M (List D)) : M D := fun ρ S => (ma ρ S).bind fun ds S1 => .ok (.dk ks ds) S1
theorem ev_dict {keys : List (Option Expr)} {vals : List Expr} {ks : List Key} {ma : M (List D)} {pos : Pos} (h : EvDs X W keys vals ks ma) (h0 : keys ≠ []) (h15 : keys.length ≤ 15) (hn : ks.Nodup) : EvE X W (.Dict keys vals pos) (mDict ks ma) := by
  obtain ⟨trs, hp, ht⟩ := h.ex pos
  refine EvE.of_pe (pe_disp hp h.all h.len h0 h15) fun σ H μ S ρ R E F => ?_
  intro p hpn
  unfold mDict at F
  have stf := Step.fresh (o := .dK []) R hpn
  have Rf := stf.rel
  refine ht σ _ μ S ρ _ Rf (E.step R stf) (F.left.back R stf) fun ds S1 vs μ1 H2 e st rl hl => ?_
  have hpm := R.nin hpn
  obtain ⟨n1, n2⟩ := st.nin (o := .dK []) upd_same hpm
  have hlen : (ks.zip vs).length = ks.length := by rw [List.length_zip, hl, Nat.min_self]
  refine ⟨n2, ks.zip vs, zip_kV ks vs, by rw [hlen, h.len2]; exact h15, .dk ks ds, S1, μ1, by unfold mDict; rw [e]; rfl, ?_, ?_⟩
  · obtain ⟨ext, em, R1, kp, fr⟩ := id st
    refine ⟨ext, em, R1.pokeD n2 n1, fun a o ha hm => ?_, fun a ha => ?_⟩
    · have hap : a ≠ p := ne_of_none ha hpn
      rw [upd_ne hap]
      exact kp a o (by rw [upd_ne hap]; exact ha) hm
    · have := fr a ha
      have hap : a ≠ p := fun z => by rw [z, upd_same] at this; cases this
      rwa [upd_ne hap] at this
  · have em : mergeK [] (ks.zip vs) = ks.zip vs := by
      rw [merge_nodup _ _ ?_, List.nil_append]
      rw [List.map_nil, List.nil_append, List.map_fst_zip (by omega)]
      exact hn
    rw [em]
    exact ResOk.new (c := .dk ks ds) rfl ⟨0, 0, vs, trivial, upd_same, by show ks.length = ds.length; rw [rl.length, hl], rl.pokeD st.rel n2 n1⟩ n1 hpn

/-! ### extend -/
def mExt (mo me : M D) : M D := fun ρ S => (mo ρ S).bind fun o S1 => match o with
  | .ref n => if isLst S1 n = true then (me ρ S1).bind fun d S2 => match S2[n]?, seqW S2 d with
    | some (.lst xs), some ys => if xs.length + ys.length ≤ sizeLine then .ok .non (S2.set n (.lst (xs ++ ys))) else .fail
    | _, _ => .fail
    else .fail
  | _ => .fail
theorem ev_ext {o e : Expr} {apos pos : Pos} {mo me : M D} (ho : EvE X W o mo) (he : EvE X W e me) (hb : notCall0 o = true) (hs : notStar e = true) (hline : (apos.endLine == pos.line) = true) :
    EvE X W (.Call (.Attribute o "extend" apos) [e] [] pos) (mExt mo me) := by
  refine EvE.of_pe (pe_bm (T := "list") (id := "list.extend") PySem.F.plainAttrs_list PySem.F.slot_list_extend PySem.F.type_list_extend mt_extend ho.pe (pa_one he hs) (base_of hb _) (by rw [star_of hs]; rfl) hline (star_of hs) rfl) fun σ H μ S ρ R E F => ?_
  unfold mExt at F ⊢
  refine tm1 R E F fun d S1 v μ1 H1 e1 st x R1 E1 F1 => ?_
  rw [e1, bind_ok]
  split at F1
  · rename_i n
    split at F1
    · rename_i hl
      obtain ⟨ds0, h0⟩ := isLst_ok hl
      obtain ⟨a, vs, rfl, ha, hH, _⟩ := sql_at R1 h0 x
      refine ⟨tyV_lst hH, ?_⟩
      simp only [hl, if_true]
      refine tm1 R1 E1 F1 fun d2 S2 w μ2 H2 e2 st2 x2 R2 E2 F2 => ?_
      rw [e2, bind_ok]
      split at F2
      · rename_i xs ys hn hy
        split at F2
        · rename_i hz
          have xr := x.step R1 st2
          obtain ⟨a', vs', ea, ha', hH', rl⟩ := sql_at R2 hn xr
          cases ea
          obtain ⟨b, us, rfl, hb, rl2⟩ := seqW_ok R2 x2 hy
          refine ⟨a, b, vs', us, rfl, rfl, hH', hb, by rw [← rl.length, ← rl2.length]; exact hz, .non, S2.set n (.lst (xs ++ ys)), μ2, if_pos hz, ?_, ResOk.plain (by unfold Rep; rfl)⟩
          exact (st.trans R st2).trans R (Step.write (c := .lst (xs ++ ys)) (C := 0) (dx := 0) R2 ha' trivial trivial (rl.append rl2))
        · exact F2.elim
      · exact F2.elim
    · exact F1.elim
  · exact F1.elim

/-! ### len(set(list of ints)) -/
def difI (ns : List Int) : List Int := PyProof.Rows.firstMet (fun i => ns.getD i 0) ns.length
def mLenSet (m : M D) : M D := fun ρ S => (m ρ S).bind fun d S1 => match intsL S1 d with
  | some ns => if ns.length ≤ 4000 then .ok (.int (difI ns).length) S1 else .fail
  | none => .fail
def tLenSetG (K : PySem.W.Frag) (ta : TE) : TE := fun σ H Q => ta σ H fun x H1 => ∃ (l : Addr) (ns : List Int), x = .ref l ∧ SqL K H1 l (ns.map V.int) ∧ ns.length ≤ 4000 ∧ Q (.int ((difI ns).length : Nat)) H1
theorem pe_lenSetG {a : Expr} {ta : TE} {p p2 q pos : Pos} (hc : X.calm = true) (hg : Gl X "len") (hm : X.mg "len" = none) (hg2 : Gl X "set") (hm2 : X.mg "set" = none) (ha : PE X a ta)
    (na : starEach [a] X.env = (false, eval a X.env) :: starEach [] X.env) : PE X (.Call (.Name "len" p) [.Call (.Name "set" p2) [a] [] q] [] pos) (tLenSetG X.K ta) := by
  refine ⟨fun pins s σ H Q I h => ?_⟩
  refine Call_ (ld_blt I hg hm boot_len (PyProof.Rows.callWith_builtin1 (PyProof.Rows.args_cons ?_ rfl) rfl rfl))
  refine Call_ (ld_blt I hg2 hm2 boot_set (PyProof.Rows.callWith_type1 (PyProof.Rows.args_cons (thn (ha.run pins s σ H _ I h) fun v s1 ⟨x, H1, I1, r1, q1⟩ => PyProof.Rows.args_nil ?_) na) na rfl))
  obtain ⟨l, ns, rfl, hq, hl, q1⟩ := q1
  cases r1
  obtain ⟨its, r, pl, hz⟩ := I1.list hq
  have hn : its.toArray.size = ns.length := by rw [List.size_toArray, ← r.length, List.length_map]
  refine call_set_list (I1.ok.hd hc) pl.isList (by simpa using r.ints) (by rw [hn]; unfold scanBound; omega) fun h' tk hS hk => PyProof.Rows.args_nil ?_
  rw [hn] at hS
  obtain ⟨o, es, ep, t, ho, hex, hd, _, _, _, hf, hn2⟩ := hS
  have I2 : Inv X pins σ H1 { s1 with heap := h', toks := tk } := I1.kept fun b o e => hk b o (Heap.lt_size e) e
  have hle : (difI ns).length ≤ 4000 := Nat.le_trans (PyProof.Rows.firstMet_length_le _ _) hl
  exact call_len_set ho hex hd hf (by unfold difI at hle; rw [hn2]; omega) ⟨.int ((difI ns).length : Nat), H1, I2.tok _, ⟨_, by rw [hn2]; rfl⟩, q1⟩
theorem ev_lenSet {a : Expr} {m : M D} {p p2 q pos : Pos} (hc : X.calm = true) (hg : Gl X "len") (hm : X.mg "len" = none) (hg2 : Gl X "set") (hm2 : X.mg "set" = none) (ha : EvE X W a m) (hs : notStar a = true) :
    EvE X W (.Call (.Name "len" p) [.Call (.Name "set" p2) [a] [] q] [] pos) (mLenSet m) := by
  refine EvE.of_pe (pe_lenSetG hc hg hm hg2 hm2 ha.pe (star_of hs)) fun σ H μ S ρ R E F => ?_
  unfold mLenSet at F ⊢
  refine tm1 R E F fun d S1 v μ1 H1 e st x R1 E1 F1 => ?_
  split at F1
  · rename_i ns hn
    split at F1
    · rename_i hl
      have hn' := hn
      unfold intsL at hn
      split at hn
      · rename_i ds hd
        obtain ⟨l, vs, rfl, hq, rl⟩ := seqL_ok R1 x hd
        have := intsD_ok hn rl
        subst this
        exact ⟨l, ns, rfl, hq, hl, _, S1, μ1, by rw [e, bind_ok, hn']; dsimp only; rw [if_pos hl], st, ResOk.plain (by unfold Rep; rfl)⟩
      · cases hn
    · exact F1.elim
  · exact F1.elim
end
end Ev
/-! Ev24: update of a dict by one with other keys. -/
namespace Ev
open PySem PySem.Spec PyProof.Rows L2
def rDUpd : V → List V → Hp → VK → Prop := fun x vs H Q => ∃ a b kvs more, x = .ref a ∧ vs = [.ref b] ∧ a ≠ b ∧ H a = some (.dK kvs) ∧ H b = some (.dK more) ∧ kvs.length + more.length ≤ sizeLine ∧ Q .non (upd H a (.dK (mergeK kvs more)))
section
variable {X : Cx} {W : WX}
theorem mt_dupd : MtM X "dict.update" rDUpd := by
  intro pins s σ H x xs v us Q I rx rv h
  obtain ⟨a, b, kvs, more, rfl, rfl, hab, hA, hB, hz, q⟩ := h
  cases rx
  obtain ⟨u, rfl, ru⟩ := rv.one
  cases ru
  obtain ⟨z, hd, vs, rel, dd⟩ := dk_of I.hok hA
  obtain ⟨z2, hd2, ws, rel2, dd2⟩ := dk_of I.hok hB
  have l1 := Paired.length rel
  have l2 := Paired.length rel2
  refine call_meetsIn PySem.F.slot_dict_update dd.typeIs PySem.F.entry_dict_update (PySem.F.args_dict_update_2 _ _) (meets_dict_update (mixKind X.prog X.w) a b hab hd2)
    ⟨vs, ws, dd, dd2, by omega, fun h' dn _ hs => ?_⟩
  have he : ∃ q, h'.get? a = some q := let ⟨q, _, _, hq, _⟩ := dn; ⟨q, hq⟩
  have hl : (mergeK kvs more).length ≤ sizeLine := by have := length_mergeK more kvs; omega
  exact ⟨.non, _, d_write (t' := s.toks) I (by rw [hA]; exact True.intro) hs he (dk_new hl hd (KV.merge rel2 rel) dn), rfl, q⟩
def mUpd (mo me : M D) : M D := fun ρ S => (mo ρ S).bind fun o S1 => match o with
  | .ref n => if (dictK S1 (.ref n)).isSome = true then (me ρ S1).bind fun d S2 => match S2[n]?, d with
    | some (.dk ks ds), .dk ms es => if (ks ++ ms).Nodup ∧ ks.length + ms.length ≤ sizeLine then .ok .non (S2.set n (.dk (ks ++ ms) (ds ++ es))) else .fail
    | _, _ => .fail
    else .fail
  | _ => .fail
theorem tyV_dict {K : PySem.W.Frag} {H : Hp} {a : Addr} {kvs : List (Key × V)} (h : H a = some (.dK kvs)) : tyV K "dict" (.ref a) H := .inr (.inr (.inl ⟨rfl, .inl ⟨_, h⟩⟩))
theorem ev_upd {o e : Expr} {apos pos : Pos} {mo me : M D} (ho : EvE X W o mo) (he : EvE X W e me) (hb : notCall0 o = true) (hs : notStar e = true) (hline : (apos.endLine == pos.line) = true) :
    EvE X W (.Call (.Attribute o "update" apos) [e] [] pos) (mUpd mo me) := by
  refine EvE.of_pe (pe_bm (T := "dict") (id := "dict.update") PySem.F.plainAttrs_dict PySem.F.slot_dict_update PySem.F.type_dict_update mt_dupd ho.pe (pa_one he hs) (base_of hb _) (by rw [star_of hs]; rfl) hline (star_of hs) rfl) fun σ H μ S ρ R E F => ?_
  unfold mUpd at F ⊢
  refine tm1 R E F fun d S1 v μ1 H1 e1 st x R1 E1 F1 => ?_
  rw [e1, bind_ok]
  split at F1
  · rename_i n
    split at F1
    · rename_i hl
      obtain ⟨⟨ks0, ds0⟩, h0⟩ := Option.isSome_iff_exists.mp hl
      obtain ⟨a, vs, rfl, hH, _, _⟩ := dictK_ok R1 x h0
      refine ⟨tyV_dict hH, ?_⟩
      simp only [hl, if_true]
      refine tm1 R1 E1 F1 fun d2 S2 w μ2 H2 e2 st2 x2 R2 E2 F2 => ?_
      rw [e2, bind_ok]
      split at F2
      · rename_i ks ds ms es hn
        split at F2
        · rename_i hz
          have xr := (x.step R1 st2).rep rfl
          unfold Rep at xr
          obtain ⟨a', ha', ea⟩ := xr
          cases ea
          obtain ⟨C, dx, vs', _, hH', hw, rl⟩ := R2.cell n a _ ha' hn
          unfold ResOk at x2
          obtain ⟨b, rfl, ⟨C2, dx2, us, _, hb, hw2, rl2⟩, hbm, hb1⟩ := x2
          have hk1 : ks.length = ds.length := hw
          have hk2 : ms.length = es.length := hw2
          have hv1 := rl.length
          have hv2 := rl2.length
          have hv1 : ds.length = vs'.length := hv1
          have hv2 : es.length = us.length := hv2
          have hab : a ≠ b := fun z => hbm (by rw [← z]; exact List.mem_of_getElem? ha')
          have em : mergeK (ks.zip vs') (ms.zip us) = (ks ++ ms).zip (vs' ++ us) := by
            rw [merge_nodup _ _ ?_, List.zip_append (by omega)]
            rw [List.map_fst_zip (by omega), List.map_fst_zip (by omega)]
            exact hz.1
          refine ⟨a, b, ks.zip vs', ms.zip us, rfl, rfl, hab, hH', hb, ?_, .non, S2.set n (.dk (ks ++ ms) (ds ++ es)), μ2, if_pos hz, ?_, ResOk.plain (by unfold Rep; rfl)⟩
          · rw [List.length_zip, List.length_zip]; have := hz.2; omega
          · rw [em]
            exact (st.trans R st2).trans R (Step.write (c := .dk (ks ++ ms) (ds ++ es)) (C := 0) (dx := 0) R2 ha' trivial (by show (ks ++ ms).length = (ds ++ es).length; simp [hk1, hk2]) (rl.append rl2))
        · exact F2.elim
      · exact F2.elim
    · exact F1.elim
  · exact F1.elim
end
end Ev
/-! Ev25: what printed terms lean on where there are classes. -/
namespace Ev
open PySem PySem.Spec PyProof.Rows L2
section
variable {P : Program} {w : World} {K : PySem.W.Frag} {mg : Str → Option Value} {base : Heap}
/-- classes whose instances have a field f that no class has -/
structure FAll (K : PySem.W.Frag) (mg : Str → Option Value) (f : Str) (l : List Str) : Prop where
  ok : ∀ c C, c ∈ l → mg c = some (.ref C) → Cls K C ∧ NoAttr K C f
theorem FAll.nil {f : Str} : FAll K mg f [] := ⟨fun _ _ h => nomatch h⟩
theorem FAll.cons {f c : Str} {C : Addr} {l : List Str} (h : mg c = some (.ref C)) (cl : Cls K C) (na : NoAttr K C f) (r : FAll K mg f l) : FAll K mg f (c :: l) := ⟨fun c' C' hc hm => by
  rcases List.mem_cons.mp hc with rfl | z
  · rw [h] at hm; cases hm; exact ⟨cl, na⟩
  · exact r.ok c' C' z hm⟩
def inB (l : List Str) : Str → Bool := fun c => decide (c ∈ l)
theorem FAll.fld {X : Cx} {f : Str} {l : List Str} (h : FAll X.K X.mg f l) : ∀ c C, inB l c = true → X.mg c = some (.ref C) → FldOk X C f := fun c C hc hm =>
  let ⟨a, b⟩ := h.ok c C (of_decide_eq_true hc) hm; ⟨a, b⟩
/-- a method by the classes -/
structure MTb (P : Program) (w : World) (K : PySem.W.Frag) (mg : Str → Option Value) (base : Heap) (m : Str) (l : List (Str × Nat × Fn)) (k : Nat) : Prop where
  ok : ∀ c n f C, l.lookup c = some (n, f) → mg c = some (.ref C) → Cls K C ∧ ∃ (a : Addr) (fd : FuncData) (ps : List Str) (k' : Nat), k' ≤ k ∧ Meth K C m a ∧ Binds K fd ps [] ∧ FnOk P w K mg base (L2N.CX P w) k' a fd ps (spOf K mg n f)
theorem MTb.nil {m : Str} {k : Nat} : MTb P w K mg base m [] k := ⟨fun _ _ _ _ h => nomatch h⟩
theorem MTb.cons {m c : Str} {n k k' : Nat} {f : Fn} {l : List (Str × Nat × Fn)} {C a : Addr} {fd : FuncData} {ps : List Str} (h : mg c = some (.ref C)) (cl : Cls K C) (me : Meth K C m a) (hb : Binds K fd ps []) (F : FnOk P w K mg base (L2N.CX P w) k' a fd ps (spOf K mg n f)) (hk : k' ≤ k) (r : MTb P w K mg base m l k) :
    MTb P w K mg base m ((c, n, f) :: l) k := ⟨fun c' n' f' C' hl hm => by
  rw [List.lookup_cons] at hl
  by_cases e : c' = c
  · subst e
    rw [beq_self_eq_true] at hl
    cases hl
    rw [h] at hm; cases hm
    exact ⟨cl, a, fd, ps, k', hk, me, hb, F⟩
  · rw [beq_eq_false_iff_ne.mpr e] at hl
    exact r.ok c' n' f' C' hl hm⟩
def tabOf (l : List (Str × Nat × Fn)) : MTab := fun c => l.lookup c
theorem MTb.meth {X : Cx} {m : Str} {l : List (Str × Nat × Fn)} {k : Nat} (h : MTb X.prog X.w X.K X.mg X.base m l k) (hr : Room k X.A) : ∀ c n f C, tabOf l c = some (n, f) → X.mg c = some (.ref C) → MethOk X C m n f := fun c n f C hl hm =>
  let ⟨cl, a, fd, ps, k', hk, me, hb, F⟩ := h.ok c n f C hl hm
  ⟨cl, ⟨a, fd, ps, k', me, hb, hr.mono hk, F⟩⟩
/-- a class that is called -/
structure MkC (P : Program) (w : World) (K : PySem.W.Frag) (mg : Str → Option Value) (base : Heap) (x : Str) (n : Nat) (f : Fn) (k : Nat) : Prop where
  ex : ∃ (C a : Addr) (fd : FuncData) (ps : List Str), mg x = some (.ref C) ∧ Mk K C a ∧ Binds K fd ps [] ∧ FnOk P w K mg base (L2N.CX P w) k a fd ps (spOf K mg n f)
theorem MkC.ok {X : Cx} {x : Str} {n : Nat} {f : Fn} {k : Nat} (c : MkC X.prog X.w X.K X.mg X.base x n f k) (hr : Room (k + 1) X.A) : MakeOk X x n f :=
  let ⟨C, a, fd, ps, h1, h2, h3, h4⟩ := c.ex
  ⟨⟨C, a, fd, ps, k, h1, h2, h3, hr, h4⟩⟩
/-- a class of exceptions over ValueError without an __init__ of the program -/
def veB : List Value := [.type "ValueError", .type "Exception", .type "BaseException", .type "object"]
structure ExcT (K : PySem.W.Frag) (mg : Str → Option Value) (x : Str) : Prop where
  ex : ∃ C : Addr, mg x = some (.ref C) ∧ PySem.W.excIn K C veB "ValueError.__new__" = true ∧ PySem.W.keepIn K (.ref C) = true ∧ PySem.W.subIn K (.ref C) (.type "BaseException") = some true ∧ PySem.W.typeIn K (.ref C) = some (.type "type")
theorem ExcT.ok {X : Cx} {x : Str} (h : ExcT X.K X.mg x) : ExcOk X x :=
  let ⟨C, h1, h2, h3, h4, h5⟩ := h.ex
  ⟨⟨C, _, _, _, veB, PySem.F.excBase_ValueError, h2, h1, h3, raises_own h4 h5⟩⟩
/-- which exceptions a clause meets -/
structure ExmT (K : PySem.W.Frag) (mg : Str → Option Value) (c : Value) (l : List (Str × Bool)) : Prop where
  ok : ∀ c' b C', l.lookup c' = some b → mg c' = some (.ref C') → PySem.W.exmOne K (.ref C') c = some b
theorem ExmT.nil {c : Value} : ExmT K mg c [] := ⟨fun _ _ _ h => nomatch h⟩
theorem ExmT.cons {c : Value} {x : Str} {b : Bool} {C : Addr} {l : List (Str × Bool)} (h : mg x = some (.ref C)) (e : PySem.W.exmOne K (.ref C) c = some b) (r : ExmT K mg c l) : ExmT K mg c ((x, b) :: l) := ⟨fun c' b' C' hl hm => by
  rw [List.lookup_cons] at hl
  by_cases e' : c' = x
  · subst e'
    rw [beq_self_eq_true] at hl
    cases hl
    rw [h] at hm; cases hm
    exact e
  · rw [beq_eq_false_iff_ne.mpr e'] at hl
    exact r.ok c' b' C' hl hm⟩
def isxOf (l : List (Str × Bool)) : Str → Option Bool := fun c => l.lookup c
theorem exm_one {c x : Addr} {b : Bool} (h1 : PySem.W.subIn K (.ref c) (.type "BaseException") = some true) (h2 : PySem.W.isClsIn K c = true) (h3 : PySem.W.typeIn K (.ref c) = some (.type "type")) (h4 : PySem.W.subIn K (.ref x) (.ref c) = some b) :
    PySem.W.exmOne K (.ref x) (.ref c) = some b := by
  unfold PySem.W.exmOne
  rw [if_pos (by rw [h1]; rfl)]
  unfold PySem.W.kitCls
  have h2' : (PySem.W.clsIn K c).isSome = true := h2
  dsimp only
  rw [h2', h3]
  exact h4
/-! ### dicts of the top -/
theorem CDic.nil {a : Addr} {es : Array DictEntry} {n : Nat} (h : KDict K w a es n) : CDic K w a [] := ⟨⟨es, n, h⟩, (fun _ _ h => nomatch h), (fun _ h => nomatch h)⟩
theorem CDic.has_cons {a : Addr} {k : Str} {d : D} {u : Value} {v : V} {tb : List (Str × Option D)} (hn : PySem.W.nsIn K a k = some (some u)) (rv : RelV v u) (hc : d.cell? = none) (hR : ∀ μ H, Rep K μ H d v) (r : CDic K w a tb) : CDic K w a ((k, some d) :: tb) := by
  refine ⟨r.is, fun k' d' h => ?_, fun k' h => ?_⟩ <;> rw [List.lookup_cons] at h
  · by_cases e : k' = k
    · subst e; rw [beq_self_eq_true] at h; cases h; exact ⟨u, v, hn, rv, hc, hR⟩
    · rw [beq_eq_false_iff_ne.mpr e] at h; exact r.has k' d' h
  · by_cases e : k' = k
    · subst e; rw [beq_self_eq_true] at h; cases h
    · rw [beq_eq_false_iff_ne.mpr e] at h; exact r.no k' h
theorem CDic.no_cons {a : Addr} {k : Str} {tb : List (Str × Option D)} (hn : PySem.W.nsIn K a k = some none) (r : CDic K w a tb) : CDic K w a ((k, none) :: tb) := by
  refine ⟨r.is, fun k' d' h => ?_, fun k' h => ?_⟩ <;> rw [List.lookup_cons] at h
  · by_cases e : k' = k
    · subst e; rw [beq_self_eq_true] at h; cases h
    · rw [beq_eq_false_iff_ne.mpr e] at h; exact r.has k' d' h
  · by_cases e : k' = k
    · subst e; rw [beq_self_eq_true] at h; exact hn
    · rw [beq_eq_false_iff_ne.mpr e] at h; exact r.no k' h
/-- a tuple of the written part, of texts -/
theorem rep_ktup {a : Addr} {o : Obj} {its : Array Value} {n : Nat} {xs : List Str} {μ : List Addr} {H : Hp} (hl : K.lookup a = some o) (hc : o.cls = .type "tuple") (hd : o.data = .seq its n) (hz : its.size ≤ 1000) (hv : Vals (xs.map V.str) its.toList) : Rep K μ H (.tup (xs.map .str)) (.ref a) := by
  unfold Rep
  refine ⟨a, xs.map V.str, rfl, .inr ⟨o, its, n, hl, hc, hd, sz_le (by omega), hv⟩, ?_⟩
  clear hv hd
  induction xs with
  | nil => exact RepL.nil
  | cons x xs ih => exact RepL.cons (by unfold Rep; rfl) ih
end
section
variable {X : Cx} {W : WX}
structure CDT (K : PySem.W.Frag) (w : World) (mg : Str → Option Value) (x : Str) (tb : List (Str × Option D)) : Prop where
  ex : ∃ a, mg x = some (.ref a) ∧ CDic K w a tb
theorem ev_cgetT {x : Str} {tb : List (Str × Option D)} {b : Expr} {m : M D} {p pos : Pos} (hg : Gl X x) (h : CDT X.K X.w X.mg x tb) (hb : EvE X W b m) (hs : notSlice b = true) (hd : (x == ("__debug__" : Str)) = false) : EvE X W (.Subscript (.Name x p) b pos) (mUn (cgetD tb) m) :=
  let ⟨_, hm, C⟩ := h.ex; ev_cget hg hm C hb hs hd
theorem ev_cinT {x : Str} {tb : List (Str × Option D)} {b : Expr} {m : M D} {p pos : Pos} (hg : Gl X x) (h : CDT X.K X.w X.mg x tb) (hb : EvE X W b m) (hd : (x == ("__debug__" : Str)) = false) : EvE X W (.Compare b [.In] [.Name x p] pos) (mUn (cinD false tb) m) :=
  let ⟨_, hm, C⟩ := h.ex; ev_cin hg hm C hb hd
theorem ev_cnotinT {x : Str} {tb : List (Str × Option D)} {b : Expr} {m : M D} {p pos : Pos} (hg : Gl X x) (h : CDT X.K X.w X.mg x tb) (hb : EvE X W b m) (hd : (x == ("__debug__" : Str)) = false) : EvE X W (.Compare b [.NotIn] [.Name x p] pos) (mUn (cinD true tb) m) :=
  let ⟨_, hm, C⟩ := h.ex; ev_cnotin hg hm C hb hd
/-- a clause's class -/
structure HdT (K : PySem.W.Frag) (mg : Str → Option Value) (x : Str) (l : List (Str × Bool)) : Prop where
  ex : ∃ C, mg x = some (.ref C) ∧ ExmT K mg (.ref C) l
theorem evs_tryT {x : Str} {l : List (Str × Bool)} {body suite : List Stmt} {b0 : Stmt} {np pos pos' : Pos} {mb ms : MS} (hs : X.stack = X.env :: X.outer) (hf : X.env.frame = some X.env.locals) (hg : Gl X x) (hd : (x == ("__debug__" : Str)) = false) (h : HdT X.K X.mg x l) (tk : L2N.Takes X W)
    (hb : ∀ (W : WX) (pn : List (Addr × Obj)) (xe : Value → Shared → Prop), L2N.Takes (X.tr pn xe) W → PassesOwn (model X.prog X.w) X.A X.env xe → EvSs (X.tr pn xe) W body mb)
    (hsu : ∀ (a : Addr) (oe : Obj) (pn : List (Addr × Obj)), EvSs (X.suite a ((a, oe) :: pn)) W (b0 :: suite) ms) :
    EvS X W (.Try body [.ExceptHandler (some (.Name x np)) none (b0 :: suite) pos'] [] [] pos) (sTry (isxOf l) mb ms) := by
  obtain ⟨C, hm, hx⟩ := h.ex
  exact evs_try hs hf ⟨hg, hd, .inl hm⟩ tk (fun c' b C' e g => hx.ok c' b C' e g) hb hsu
/-- constants -/
structure CnT (mg : Str → Option Value) (x : Str) (d : D) : Prop where
  ex : ∃ u v, mg x = some u ∧ RelV v u ∧ d.cell? = none ∧ ∀ K μ H, Rep K μ H d v
theorem ev_cn {x : Str} {d : D} {pos : Pos} (hg : Gl X x) (h : CnT X.mg x d) (hd : (x == ("__debug__" : Str)) = false) : EvE X W (.Name x pos) (mLit d) := by
  obtain ⟨u, v, hm, r, hc, hR⟩ := h.ex
  exact EvE.of_pe (pe_glob hg hm r hd) fun σ H μ S ρ R E F => ⟨d, S, μ, rfl, Step.refl R, ResOk.plain (hR _ _ _)⟩
theorem CnT.int {mg : Str → Option Value} {x : Str} {i : Int} {t : Tok} (h : mg x = some (.int i t)) : CnT mg x (.int i) := ⟨⟨_, .int i, h, ⟨t, rfl⟩, rfl, fun _ _ _ => by unfold Rep; rfl⟩⟩
theorem CnT.str {mg : Str → Option Value} {x i : Str} {t : Tok} (h : mg x = some (.str i t)) : CnT mg x (.str i) := ⟨⟨_, .str i, h, ⟨t, rfl⟩, rfl, fun _ _ _ => by unfold Rep; rfl⟩⟩
end
end Ev
/-! Ev26: a, b = e1, e2; plain forms of Ev22 .. Ev25. -/
namespace Ev
open PySem PySem.Spec PyProof.Rows L2
section
variable {X : Cx} {W : WX}
def sPar (i j : Nat) (m : M (List D)) : MS := fun ρ S => (m ρ S).s ρ fun ds S1 => match (boxL ds S1).1 with
  | [d, e] => .next ((ρ.set i (some d)).set j (some e)) (boxL ds S1).2
  | _ => .fail
theorem evs_par {i j : Nat} {x y : Str} {a b : Expr} {m : M (List D)} {px py pt pos : Pos} {kt k2 pt2} (hc : X.calm = true) (hN : X.N.Nodup) (hi : X.N[i]? = some x) (hj : X.N[j]? = some y) (hij : i ≠ j)
    (hx : X.env.scope.names.lookup x = some .local) (hy : X.env.scope.names.lookup y = some .local) (ha : EvA X W [a, b] m)
    (hw : swappedStores [.Tuple [.Name x px, .Name y py] kt pt] (.Tuple [a, b] k2 pt2) X.env = pure (some [x, y]))
    (hs : swapsWithSole [.Tuple [.Name x px, .Name y py] kt pt] (.Tuple [a, b] k2 pt2) pos.line X.env = pure false) :
    EvS X W (.Assign [.Tuple [.Name x px, .Name y py] kt pt] (.Tuple [a, b] k2 pt2) pos) (sPar i j m) := by
  refine PS.imp (ps_par hc hN hi hj hij hx hy ha.pa hw hs) fun E σ H ⟨μ, S, ρ, R, En, G⟩ => ?_
  unfold sPar at G
  show TMa X W m σ H _
  refine ⟨μ, S, ρ, R, En, G.left R En, fun ds S1 vs μ1 H1 e st rl => ?_⟩
  rw [e] at G
  obtain ⟨ext, st2, r2, _⟩ := Step.boxL rl st
  have G2 : GoodS X.K X.mg W E μ H (match (boxL ds S1).1 with
    | [d, e] => .next ((ρ.set i (some d)).set j (some e)) (boxL ds S1).2
    | _ => .fail) := G
  split at G2
  · rename_i d e hb
    rw [hb] at r2
    obtain ⟨v, r, rfl, r3, r4⟩ := RepL.cons_iff.mp r2
    obtain ⟨w, r, rfl, r5, r6⟩ := RepL.cons_iff.mp r4
    rw [RepL.nil_iff] at r6
    subst r6
    exact ⟨v, w, rfl, G2 _ _ H1 st2 (((En.step R st2).set i r3).set j r5)⟩
  · exact G2.elim
theorem evt_pc {a b : Expr} {op : CmpOp} {pos : Pos} {t : TE} {m : M D} (h : PC X op a b t) (h1 : behindInMarks op b = false) (q : ∀ σ H μ S ρ, Rel X.K X.mg μ S H → EnvOk X.K μ H ρ σ → Fine X.K X.mg W μ H σ (m ρ S) →
    t σ H fun v H' => ∃ d S' μ', m ρ S = .ok d S' ∧ Step X.K X.mg μ H μ' S' H' ∧ ResOk X.K X.mg μ' H H' d v) : EvT X W (.Compare a [op] [b] pos) (mTru m) := by
  refine ⟨fun pins s σ H μ S ρ I R E F => ?_⟩
  refine wpAny_isTrue_Compare1 (thn (h.run pins s σ H _ I (q σ H μ S ρ R E F.left)) fun v s1 h1 => thn h1 fun u s2 h2 => thn h2 fun c s3 ⟨w, H', I', r, d, S', μ', e, st, x⟩ => ?_) h1
  have F1 : Fine X.K X.mg W μ' H' σ (Out.of (truD S' d) S') := Fine.right (f := fun d S1 => Out.of (truD S1 d) S1) R st F e
  obtain ⟨k, ek⟩ := fine_of F1
  refine thn (tru_ok pins s3 σ H' w c (fun b H2 => b = k ∧ H2 = H') I' r ⟨k, truD_ok st.rel x ek, rfl, rfl⟩) fun b s4 ⟨H2, I2, e1, e2⟩ => ?_
  subst e1; subst e2
  exact ⟨S', μ', H2, by unfold mTru; rw [e, bind_ok, ek]; rfl, I2, st⟩
theorem pc_of_op {op : CmpOp} {r : R2} {a b : Expr} {ta tb : TE} (ho : OpR X (compareOp op) r) (ha : PE X a ta) (hb : PE X b tb) : PC X op a b (tOp r ta tb) :=
  ⟨fun pins s σ H Q I h => thn (ha.run pins s σ H _ I h) fun v s1 ⟨x, H1, I1, r1, q1⟩ => thn (hb.run pins s1 σ H1 _ I1 q1) fun u s2 ⟨y, H2, I2, r2, q2⟩ => ho pins s2 σ H2 x y v u _ I2 r1 r2 q2⟩
theorem evt_din {a b : Expr} {ma mb : M D} {pos : Pos} (hu : X.A.units + 64 < cLine) (ha : EvE X W a ma) (hb : EvE X W b mb) (h1 : behindInMarks .In b = false) : EvT X W (.Compare a [.In] [b] pos) (mTru (mBin (dinD false) ma mb)) := by
  refine evt_pc (pc_din (by omega) ha.pe hb.pe) h1 fun σ H μ S ρ R E F => ?_
  refine tm2 R E F fun d1 d2 S2 v1 v2 μ2 H2 r e st x1 x2 hr => ?_
  unfold dinD at hr
  split at hr
  · rename_i ks ds k h1 h2
    cases hr
    obtain ⟨a, vs, rfl, hH, hl, rl⟩ := dictK_ok st.rel x2 h1
    have := lookK_ok (k := k) hl rl
    rw [keyD_ok x1 h2]
    refine ⟨a, valV (ks.zip vs) k, rfl, DGet.k hH, _, S2, μ2, e, st, ResOk.plain ?_⟩
    unfold Rep
    cases q : lookK k ks ds with
    | none => rw [q] at this; rw [this]; rfl
    | some d => rw [q] at this; obtain ⟨v, hv, _⟩ := this; rw [hv]; rfl
  · cases hr
theorem evt_dnotin {a b : Expr} {ma mb : M D} {pos : Pos} (hu : X.A.units + 64 < cLine) (ha : EvE X W a ma) (hb : EvE X W b mb) (h1 : behindInMarks .NotIn b = false) : EvT X W (.Compare a [.NotIn] [b] pos) (mTru (mBin (dinD true) ma mb)) := by
  refine evt_pc (pc_dnotin (by omega) ha.pe hb.pe) h1 fun σ H μ S ρ R E F => ?_
  refine tm2 R E F fun d1 d2 S2 v1 v2 μ2 H2 r e st x1 x2 hr => ?_
  unfold dinD at hr
  split at hr
  · rename_i ks ds k h1 h2
    cases hr
    obtain ⟨a, vs, rfl, hH, hl, rl⟩ := dictK_ok st.rel x2 h1
    have := lookK_ok (k := k) hl rl
    rw [keyD_ok x1 h2]
    refine ⟨a, valV (ks.zip vs) k, rfl, DGet.k hH, _, S2, μ2, e, st, ResOk.plain ?_⟩
    unfold Rep
    cases q : lookK k ks ds with
    | none => rw [q] at this; rw [this]; rfl
    | some d => rw [q] at this; obtain ⟨v, hv, _⟩ := this; rw [hv]; rfl
  · cases hr
theorem cin_q {neg : Bool} {tb : List (Str × Option D)} {a : Addr} {tx : TE} {b : Expr} {m : M D} {σ : L2.St} {H : Hp} {μ : List Addr} {S : Store} {ρ : Env'} (C : CDic X.K X.w a tb) (R : Rel X.K X.mg μ S H) (E : EnvOk X.K μ H ρ σ) (F : Fine X.K X.mg W μ H σ (mUn (cinD neg tb) m ρ S)) :
    tOp (fun x y H Q => ∃ (z : Str) (r : Option Value), x = .str z ∧ y = .ref a ∧ PySem.W.nsIn X.K a z = some r ∧ Q (.bl (if neg then !r.isSome else r.isSome)) H) (TM X W m) (tC (.ref a)) σ H fun v H' => ∃ d S' μ', mUn (cinD neg tb) m ρ S = .ok d S' ∧ Step X.K X.mg μ H μ' S' H' ∧ ResOk X.K X.mg μ' H H' d v := by
  unfold mUn at F ⊢
  refine tm1 R E F fun d S1 v μ1 H1 e st r R1 E1 F1 => ?_
  obtain ⟨res, er⟩ := fine_of F1
  have er0 := er
  unfold cinD at er
  split at er
  · rename_i k
    split at er
    · rename_i d' hl
      cases er
      cases d' with
      | none => exact ⟨k, none, rep_str r, rfl, C.no _ hl, _, S1, μ1, by rw [e, bind_ok, er0]; rfl, st, ResOk.plain (by unfold Rep; rfl)⟩
      | some d' =>
        obtain ⟨u, v', hn, _⟩ := C.has _ _ hl
        exact ⟨k, some u, rep_str r, rfl, hn, _, S1, μ1, by rw [e, bind_ok, er0]; rfl, st, ResOk.plain (by unfold Rep; rfl)⟩
    · cases er
  · cases er
theorem evt_cinT {x : Str} {tb : List (Str × Option D)} {b : Expr} {m : M D} {p pos : Pos} (hg : Gl X x) (h : CDT X.K X.w X.mg x tb) (hb : EvE X W b m) (hd : (x == ("__debug__" : Str)) = false) : EvT X W (.Compare b [.In] [.Name x p] pos) (mTru (mUn (cinD false tb) m)) := by
  obtain ⟨a, hm, C⟩ := h.ex
  obtain ⟨es, n, kd⟩ := C.is
  exact evt_pc (pc_of_op (op_in_kd kd) hb.pe (pe_glob (v := .ref a) hg hm rfl hd)) rfl fun σ H μ S ρ R E F => cin_q (neg := false) (tx := tC (.ref a)) (b := b) C R E F
theorem evt_cnotinT {x : Str} {tb : List (Str × Option D)} {b : Expr} {m : M D} {p pos : Pos} (hg : Gl X x) (h : CDT X.K X.w X.mg x tb) (hb : EvE X W b m) (hd : (x == ("__debug__" : Str)) = false) : EvT X W (.Compare b [.NotIn] [.Name x p] pos) (mTru (mUn (cinD true tb) m)) := by
  obtain ⟨a, hm, C⟩ := h.ex
  obtain ⟨es, n, kd⟩ := C.is
  exact evt_pc (pc_of_op (op_notIn_kd kd) hb.pe (pe_glob (v := .ref a) hg hm rfl hd)) rfl fun σ H μ S ρ R E F => cin_q (neg := true) (tx := tC (.ref a)) (b := b) C R E F
end
section
variable {ρ : Env'} {S : Store} {a b : M D} {r : M (List D)} {g : D → Option D}
@[simp] theorem x_un : mUn g a ρ S = (a ρ S).bind fun d S1 => Out.of (g d) S1 := (rfl)
@[simp] theorem x_dict {ks : List Key} : mDict ks r ρ S = (r ρ S).bind fun ds S1 => .ok (.dk ks ds) S1 := (rfl)
@[simp] theorem x_dnil : mDNil ρ S = .ok [] S := (rfl)
@[simp] theorem x_dcons : mDCons a r ρ S = (a ρ S).bind fun d S1 => (r ρ (box d S1).2).bind fun ds S2 => .ok ((box d S1).1 :: ds) S2 := (rfl)
@[simp] theorem x_ext : mExt a b ρ S = (a ρ S).bind fun o S1 => match o with
  | .ref n => if isLst S1 n = true then (b ρ S1).bind fun d S2 => match S2[n]?, seqW S2 d with
    | some (.lst xs), some ys => if xs.length + ys.length ≤ sizeLine then .ok .non (S2.set n (.lst (xs ++ ys))) else .fail
    | _, _ => .fail
    else .fail
  | _ => .fail := (rfl)
@[simp] theorem x_lenSet : mLenSet a ρ S = (a ρ S).bind fun d S1 => match intsL S1 d with
  | some ns => if ns.length ≤ 4000 then .ok (.int (difI ns).length) S1 else .fail
  | none => .fail := (rfl)
@[simp] theorem x_upd : mUpd a b ρ S = (a ρ S).bind fun o S1 => match o with
  | .ref n => if (dictK S1 (.ref n)).isSome = true then (b ρ S1).bind fun d S2 => match S2[n]?, d with
    | some (.dk ks ds), .dk ms es => if (ks ++ ms).Nodup ∧ ks.length + ms.length ≤ sizeLine then .ok .non (S2.set n (.dk (ks ++ ms) (ds ++ es))) else .fail
    | _, _ => .fail
    else .fail
  | _ => .fail := (rfl)
@[simp] theorem x_make {x : Str} {n : Nat} {f : Fn} : mMake x n f r ρ S = (r ρ S).bind fun ds S1 => if ds.length + 1 = n then
    (f (.ref S1.length :: ds) (S1 ++ [.obj x [] []])).bind fun d S2 => match d with
      | .non => .ok (closeD S1 (.ref S1.length) S2).1 (closeD S1 (.ref S1.length) S2).2
      | _ => .fail
  else .fail := (rfl)
@[simp] theorem x_meth {t : MTab} {m : Str} : mMeth t m a r ρ S = (a ρ S).bind fun d S1 => match objOf S1 d with
  | some (c, ks, _) => if m ∈ ks then .fail else match t c with
    | some (n, f) => (r ρ S1).bind fun ds S2 => if ds.length + 1 = n then f (d :: ds) S2 else .fail
    | none => .fail
  | none => .fail := (rfl)
@[simp] theorem x_fld {t : Str → Bool} {f : Str} : mFld t f a ρ S = (a ρ S).bind fun d S1 => match objOf S1 d with
  | some (c, ks, ds) => if t c = true then Out.of (lookO f ks ds) S1 else .fail
  | none => .fail := (rfl)
@[simp] theorem x_sfld {t : Str → Bool} {f : Str} : sFldE t f a b ρ S = (a ρ S).s ρ fun d S1 => (b ρ (box d S1).2).s ρ fun o S2 => match o with
  | .ref n => match S2[n]? with
    | some (.obj c ks ds) => if t c = true ∧ ks.length < 1000 then .next ρ (S2.set n (.obj c (putO f (box d S1).1 ks ds).1 (putO f (box d S1).1 ks ds).2)) else .fail
    | _ => .fail
  | _ => .fail := (rfl)
@[simp] theorem x_par {i j : Nat} : sPar i j r ρ S = (r ρ S).s ρ fun ds S1 => match (boxL ds S1).1 with
  | [d, e] => .next ((ρ.set i (some d)).set j (some e)) (boxL ds S1).2
  | _ => .fail := (rfl)
@[simp] theorem x_raise {x : Str} : sRaise x ρ S = .exc x [] [] ρ S := (rfl)
@[simp] theorem box_dk {ks : List Key} {ds : List D} : box (.dk ks ds) S = (.ref S.length, S ++ [.dk ks ds]) := rfl
@[simp] theorem box_obj {c : Str} {ks : List Str} {ds : List D} : box (.obj c ks ds) S = (.ref S.length, S ++ [.obj c ks ds]) := rfl
theorem try_wp {isx : Str → Option Bool} {mb ms : MS} {N : Env' → Store → Prop} {R : D → Store → Prop} {B C : Env' → Store → Prop} {X : XP} (h : ∀ r, r = mb ρ S → match r with
    | .next ρ1 S1 => N ρ1 S1
    | .ret d S1 => R d S1
    | .brk ρ1 S1 => B ρ1 S1
    | .cont ρ1 S1 => C ρ1 S1
    | .exc c ks ds ρ1 S1 => match isx c with
      | some true => (ms ρ1 S1).wp N R B C X
      | some false => X c ks ds S1
      | none => False
    | .fail => False) : (sTry isx mb ms ρ S).wp N R B C X := by
  have := h _ rfl
  unfold sTry
  cases q : mb ρ S with
  | exc c ks ds ρ1 S1 =>
    rw [q] at this
    dsimp only at this ⊢
    cases z : isx c with
    | none => rw [z] at this; exact this.elim
    | some b => rw [z] at this; cases b <;> exact this
  | _ => rw [q] at this; exact this
end
end Ev
/-! Ev27: a state list of ints in a cell, whatever its length; what is handed back. -/
namespace Ev
open PySem PySem.Spec PyProof.Rows L2
/-- only the k-th cell is another one, a list of ints -/
def Di (k : Nat) (S S' : Store) : Prop := S' = S ∨ ∃ ns : List Int, S' = S.set k (.lst (ns.map .int))
section
variable {k : Nat} {S S' S2 T : Store} {d : D}
theorem Di.refl : Di k S S := .inl rfl
theorem Di.len (h : Di k S S') : S'.length = S.length := by
  rcases h with rfl | ⟨_, rfl⟩
  · rfl
  · rw [List.length_set]
theorem Di.set {ns : List Int} : Di k S (S.set k (.lst (ns.map .int))) := .inr ⟨ns, rfl⟩
theorem Di.trans (h : Di k S S') (h2 : Di k S' S2) : Di k S S2 := by
  rcases h2 with rfl | ⟨ns, rfl⟩
  · exact h
  · rcases h with rfl | ⟨_, rfl⟩
    · exact .set
    · rw [List.set_set]; exact .set
theorem Di.get {j : Nat} (h : Di k S S') (hj : j ≠ k) : S'[j]? = S[j]? := by
  rcases h with rfl | ⟨_, rfl⟩
  · rfl
  · rw [List.getElem?_set, if_neg (fun e => hj e.symm)]
theorem Di.clean (h : Di k S S') : Clean S S' := fun j hj => by
  rcases h with rfl | ⟨ns, rfl⟩
  · exact .inl rfl
  · rw [List.getElem?_set]
    by_cases e : k = j
    · rw [if_pos e, if_pos (by omega)]
      exact .inr ⟨_, rfl, lo_ints⟩
    · rw [if_neg e]; exact .inl rfl
theorem closeR_di {Q : D → Store → Prop} (h : Di k S S') (hl : d.lo S'.length = true) (q : Q d S') : closeR S Q d (S' ++ T) := by
  have e := h.len
  rw [e] at hl
  refine closeR_eq (r := d) (S3 := S') ?_ q
  unfold closeD
  rw [if_pos (h.clean.more e), if_pos hl, List.take_append_of_le_length (by omega), List.take_of_length_le (by omega)]
theorem closeR_di0 {Q : D → Store → Prop} (h : Di k S S') (hl : d.lo S'.length = true) (q : Q d S') : closeR S Q d S' := by
  have := closeR_di (T := []) (Q := Q) h hl q
  rwa [List.append_nil] at this
theorem closeR_diN {Q : D → Store → Prop} {j : Nat} {ds : List D} (h : Di k S S') (hj : T[j]? = some (.lst ds)) (hl : loL S'.length ds = true) (q : Q (.lst ds) S') : closeR S Q (.ref (S'.length + j)) (S' ++ T) := by
  have e := h.len
  rw [e] at hl
  refine closeR_eq (r := .lst ds) (S3 := S') ?_ q
  unfold closeD
  rw [if_pos (h.clean.more e), if_neg (by unfold D.lo; simp; omega)]
  dsimp only
  rw [getT, hj]
  dsimp only
  have hc : (Cell.lst ds).lo S.length = true := hl
  rw [if_pos hc, List.take_append_of_le_length (by omega), List.take_of_length_le (by omega)]
  rfl
/-- an instance that nobody holds is handed back -/
theorem closeD_obj {c : Str} {ks : List Str} {ds : List D} {j : Nat} (hj : T[j]? = some (.obj c ks ds)) (hl : loL S.length ds = true) : closeD S (.ref (S.length + j)) (S ++ T) = (.obj c ks ds, S) := by
  unfold closeD
  rw [if_pos (Clean.app T), if_neg (by unfold D.lo; simp)]
  dsimp only
  rw [getT, hj]
  dsimp only
  have hc : (Cell.obj c ks ds).lo S.length = true := hl
  rw [if_pos hc]
  simp [Cell.d]
theorem closeL_app {es : List D} (h : loL S.length es = true) : closeL S es (S ++ T) = S := by
  unfold closeL
  rw [if_pos ⟨Clean.app T, h⟩]
  simp
theorem closeL_same {es : List D} (h : loL S.length es = true) : closeL S es S = S := by
  have := closeL_app (S := S) (T := []) h
  rwa [List.append_nil] at this
end
@[simp] theorem dictK_ref {S : Store} {n : Nat} : dictK S (.ref n) = match S[n]? with
    | some (.dk ks ds) => some (ks, ds)
    | _ => none := rfl
@[simp] theorem dictK_dk {S : Store} {ks : List Key} {ds : List D} : dictK S (.dk ks ds) = some (ks, ds) := rfl
@[simp] theorem objOf_ref {S : Store} {n : Nat} : objOf S (.ref n) = match S[n]? with
    | some (.obj c ks ds) => some (c, ks, ds)
    | _ => none := rfl
@[simp] theorem objOf_obj {S : Store} {c : Str} {ks : List Str} {ds : List D} : objOf S (.obj c ks ds) = some (c, ks, ds) := rfl
@[simp] theorem dget_str {S : Store} {d : D} {x : Str} : dgetD d (.str x) S = match dictK S d with
    | some (ks, ds) => lookK (.inr x) ks ds
    | none => none := by
  unfold dgetD keyD
  cases dictK S d with
  | none => rfl
  | some p => rfl
theorem lookK_hit {k : Key} {ks : List Key} {d : D} {ds : List D} : lookK k (k :: ks) (d :: ds) = some d := if_pos rfl
theorem lookK_miss {k k' : Key} {ks : List Key} {d : D} {ds : List D} (h : decide (k' = k) = false) : lookK k (k' :: ks) (d :: ds) = lookK k ks ds := if_neg (of_decide_eq_false h)
theorem len_tup {ds : List D} {S : Store} : bltD .len [.tup ds] S = some (.int (ds.length : Nat)) := blt_lenA (d := .tup ds) rfl (fun x h => nomatch h)
theorem len_tupI {ns : List Int} {S : Store} : bltD .len [.tup (ns.map .int)] S = some (.int (ns.length : Nat)) := by rw [len_tup, List.length_map]
theorem lookS_hit {α : Type} {k : Str} {v : α} {l : List (Str × α)} : ((k, v) :: l).lookup k = some v := by rw [List.lookup_cons, beq_self_eq_true]
theorem lookS_miss {α : Type} {k k' : Str} {v : α} {l : List (Str × α)} (h : (k == k') = false) : ((k', v) :: l).lookup k = l.lookup k := by rw [List.lookup_cons, h]
theorem closeD_obj0 {S : Store} {c : Str} {ks : List Str} {ds : List D} (hl : loL S.length ds = true) : closeD S (.ref S.length) (S ++ [.obj c ks ds]) = (.obj c ks ds, S) := closeD_obj (j := 0) rfl hl
theorem closeD_len {S S2 : Store} {d : D} (h : S2.length = S.length) (hl : d.lo S.length = true) : closeD S d S2 = (d, S2) := by
  have e : S2.take S.length = S2 := List.take_of_length_le (by omega)
  unfold closeD
  rw [if_pos hl, e]
  exact ite_self _
/-- a try around one expression -/
def XT (isx : Str → Option Bool) (ms : Store → SOut) (N : Env' → Store → Prop) (R : D → Store → Prop) (B C : Env' → Store → Prop) (X : XP) : XP := fun c ks ds S1 => match isx c with
  | some true => (ms S1).wp N R B C X
  | some false => X c ks ds S1
  | none => False
section
variable {isx : Str → Option Bool} {m : M D} {ms : MS} {N : Env' → Store → Prop} {R : D → Store → Prop} {B C : Env' → Store → Prop} {X : XP} {ρ : Env'} {S : Store}
theorem try_expr (h : (m ρ S).wp (fun _ S1 => N ρ S1) (XT isx (ms ρ) N R B C X)) : (sTry isx (sExpr m) ms ρ S).wp N R B C X := by
  refine try_wp fun r hr => ?_
  subst hr
  rw [x_expr]
  cases q : m ρ S with
  | ok d S1 => rw [q] at h; exact h
  | exc c ks ds S1 => rw [q] at h; exact h
  | fail => rw [q] at h; exact h
theorem try_ret (h : (m ρ S).wp R (XT isx (ms ρ) N R B C X)) : (sTry isx (sRet m) ms ρ S).wp N R B C X := by
  refine try_wp fun r hr => ?_
  subst hr
  rw [x_ret]
  cases q : m ρ S with
  | ok d S1 => rw [q] at h; exact h
  | exc c ks ds S1 => rw [q] at h; exact h
  | fail => rw [q] at h; exact h
theorem try_asg {b : Bind} (h : (m ρ S).wp (fun d S1 => match b (box d S1).1 ρ with | some ρ1 => N ρ1 (box d S1).2 | none => False) (XT isx (ms ρ) N R B C X)) : (sTry isx (sAsg b m) ms ρ S).wp N R B C X := by
  refine try_wp fun r hr => ?_
  subst hr
  rw [x_asg]
  cases q : m ρ S with
  | ok d S1 =>
    rw [q] at h
    rw [s_ok]
    have h : (match b (box d S1).1 ρ with | some ρ1 => N ρ1 (box d S1).2 | none => False) := h
    cases z : b (box d S1).1 ρ with
    | none => rw [z] at h; exact h
    | some ρ1 => rw [z] at h; exact h
  | exc c ks ds S1 => rw [q] at h; exact h
  | fail => rw [q] at h; exact h
end
/-- texts compared -/
def neS (x y : Str) : Bool := PyData.strOk x && PyData.strOk y && !decide (x = y)
theorem eqS_ne {S : Store} {x y : Str} (h : neS x y = true) : eqD S (.str x) (.str y) = some false := by
  unfold neS at h
  simp only [Bool.and_eq_true, Bool.not_eq_true', decide_eq_false_iff_not] at h
  rw [eqD_str (nb := true) h.1.1 h.1.2, decide_eq_false h.2]
theorem eqS_eq {S : Store} {x : Str} (h : PyData.strOk x = true) : eqD S (.str x) (.str x) = some true := eqD_same (nb := true) (n := 0) (by decide) (by unfold D.pl; exact h)
theorem small_log {a : Int} (h0 : 0 ≤ a) (h : a < 2 ^ 100) : a.natAbs.log2 < 200 := by
  by_cases e : a.natAbs = 0
  · rw [e]; decide
  · have : a.natAbs < 2 ^ 200 := Nat.lt_of_lt_of_le (by omega : a.natAbs < 2 ^ 100) (Nat.pow_le_pow_right (by omega) (by omega))
    exact (Nat.log2_lt e).mpr this
theorem mul_small {a b : Int} {S : Store} (h0 : 0 ≤ a) (h1 : a < 2 ^ 100) (h2 : 0 ≤ b) (h3 : b < 2 ^ 100) : binD .Mult (.int a) (.int b) S = some (.int (a * b)) :=
  bin_mul (by have := small_log h0 h1; have := small_log h2 h3; omega)
theorem fdiv_ok {b : Int} (h0 : 0 < b) (h1 : b < 2 ^ 100) : 0 < b ∧ b.natAbs.log2 < 9000 := ⟨h0, by have := small_log (Int.le_of_lt h0) h1; omega⟩
theorem cell_ref {S : Store} {k : Nat} {ns : List Int} {i : Int} (h : S[k]? = some (.lst (ns.map .int))) (h0 : 0 ≤ i) (h1 : i < ns.length) : idxD (.ref k) (.int i) S = some (.int (ati ns i)) := by
  rw [idx_ref h]
  exact atI_nat h0 (by rw [List.getElem?_map, ati_some h0 h1]; rfl)
end Ev
/-! Ev28: plain tuples within data, tuple.count. -/
namespace Ev
open PySem PySem.Spec PyProof.Rows L2
mutual
def deepD : D → D
  | .ptup ds => .tup (deepL ds)
  | .tup ds => .tup (deepL ds)
  | d => d
def deepL : List D → List D
  | [] => []
  | d :: ds => deepD d :: deepL ds
end
section
variable {K : PySem.W.Frag} {μ : List Addr} {H : Hp}
mutual
theorem Rep.deep : ∀ {d : D} {v : V}, Rep K μ H d v → Rep K μ H (deepD d) v
  | .ptup ds, v, h => by
    unfold Rep at h
    unfold deepD Rep
    obtain ⟨a, vs, e, q, r⟩ := h
    exact ⟨a, vs, e, q.t, RepL.deep r⟩
  | .tup ds, v, h => by
    unfold Rep at h
    unfold deepD Rep
    obtain ⟨a, vs, e, q, r⟩ := h
    exact ⟨a, vs, e, q, RepL.deep r⟩
  | .non, _, h => h
  | .bl _, _, h => h
  | .int _, _, h => h
  | .str _, _, h => h
  | .ref _, _, h => h
  | .fro _, _, h => h
  | .lst _, _, h => h
  | .obj _ _ _, _, h => h
  | .dk _ _, _, h => h
  | .dt _ _, _, h => h
  | .exn _ _ _ _, _, h => h
theorem RepL.deep : ∀ {ds : List D} {vs : List V}, RepL K μ H ds vs → RepL K μ H (deepL ds) vs
  | [], _, h => h
  | d :: ds, vs, h => by
    obtain ⟨v, r, e, h1, h2⟩ := RepL.cons_iff.mp h
    subst e
    unfold deepL
    exact RepL.cons (Rep.deep h1) (RepL.deep h2)
end
end
section
variable {X : Cx} {W : WX}
def mDeep (m : M D) : M D := fun ρ S => (m ρ S).bind fun d S1 => .ok (deepD d) S1
theorem deep_res {K : PySem.W.Frag} {mg : Str → Option Value} {μ : List Addr} {H0 H : Hp} {d : D} {v : V} (x : ResOk K mg μ H0 H d v) : ResOk K mg μ H0 H (deepD d) v := by
  cases d <;> first | exact x | exact ResOk.plain (Rep.deep (x.rep rfl))
theorem ev_deep {e : Expr} {m : M D} (h : EvE X W e m) : EvE X W e (mDeep m) := by
  refine ⟨fun pins s σ H μ S ρ I R E F => ?_⟩
  unfold mDeep at F
  refine thn (h.run pins s σ H μ S ρ I R E F.left) fun u s1 ⟨d, S1, v, μ1, H1, e1, I1, r1, st, x⟩ => ?_
  exact ⟨deepD d, S1, v, μ1, H1, by unfold mDeep; rw [e1]; rfl, I1, r1, st, deep_res x⟩
/-- t.count(k), ints, t plain -/
def pcntD (o e : D) : Option D := match o, e with
  | .ptup ds, .int k => match intsD ds with
    | some ns => some (.int (ns.count k : Nat))
    | none => none
  | _, _ => none
def mTCnt (mo me : M D) : M D := fun ρ S => (mo ρ S).bind fun o S1 => match o with
  | .ptup ds => (me ρ S1).bind fun e S2 => Out.of (pcntD (.ptup ds) e) S2
  | _ => .fail
theorem ev_tcnt {o e : Expr} {apos pos : Pos} {mo me : M D} (ho : EvE X W o mo) (he : EvE X W e me) (hb : notCall0 o = true) (hs : notStar e = true) (hline : (apos.endLine == pos.line) = true) :
    EvE X W (.Call (.Attribute o "count" apos) [e] [] pos) (mTCnt mo me) := by
  refine ⟨fun pins s σ H μ S ρ I R E F => ?_⟩
  unfold mTCnt at F ⊢
  refine wpAny_Call_method_late (base_of hb _) (by rw [star_of hs]; rfl) hline rfl (thn (ho.run pins s σ H μ S ρ I R E F.left) fun v s1 ⟨d, S1, x, μ1, H1, e1, I1, r1, st, xr⟩ => ?_)
  have F1 := Fine.right R st F e1
  split at F1
  · rename_i ds
    have q := xr.rep rfl
    unfold Rep at q
    obtain ⟨a, vs, rfl, ⟨ob, hH, hd⟩, rl⟩ := q
    cases r1
    obtain ⟨hg, hz, its, rv, pl⟩ := I1.hok a _ hH
    refine ⟨"tuple", "tuple.count", PySem.F.plainAttrs_tuple, PySem.F.slot_tuple_count, PySem.F.type_tuple_count, ?_, fun b e => ?_, ?_⟩
    · obtain ⟨o', ho', hc, _⟩ := pl
      exact ⟨o', ho', hc⟩
    · cases e
      exact ⟨ob, hg, hd⟩
    · have E1 := E.step R st
      rw [star_of hs]
      have go : tCons (TM X W me) tNil σ H1 (fun us H2 => ∃ (r : D) (S2 : Store) (μ2 : List Addr) (ns : List Int) (k : Int), us = [V.int k] ∧ r = .int (ns.count k : Nat) ∧ SqT X.K H2 a (ns.map V.int) ∧ Step X.K X.mg μ H μ2 S2 H2 ∧ (me ρ S1).bind (fun e S2 => Out.of (pcntD (.ptup ds) e) S2) = .ok r S2) := by
        refine tm1 st.rel E1 F1 fun d2 S2 y μ2 H2 e2 st2 x2 R2 E2 F2 => ?_
        obtain ⟨r, er⟩ := fine_of F2
        have er0 := er
        unfold pcntD at er
        split at er
        · rename_i ds' k ho2
          cases ho2
          split at er
          · rename_i ns hn
            cases er
            have z := st2.rep st.rel (xr.rep rfl)
            unfold Rep at z
            obtain ⟨a', vs', e', q', rl'⟩ := z
            cases e'
            have := intsD_ok hn rl'
            subst this
            exact ⟨.int (ns.count k : Nat), S2, μ2, ns, k, by rw [rep_int x2], rfl, q'.t, st.trans R st2, by rw [e2, bind_ok, er0]; rfl⟩
          · cases er
        · cases er
      have hA := (pa_one he hs).run pos pins s1 σ H1 _ I1 go
      rw [star_of hs] at hA
      refine Calls.callWith_builtin (by rfl) (Calls.evalArgs_plain ?_)
      refine thn hA fun us s2 ⟨vs2, H2, I2, rv2, r, S2, μ2, ns, k, ev, er, hq2, st2, e2⟩ => ?_
      subst ev
      obtain ⟨u, rfl, t, rfl⟩ := vals1 rv2
      obtain ⟨its2, rv3, pl2, hz2⟩ := I2.tuple hq2
      obtain ⟨⟨cls, dd, data, sl⟩, hget, hcl, n, hdt⟩ := pl2
      simp only at hcl hdt
      subst hcl hdt
      have hi := ints_of_vals rv3
      have ec : its2.toArray.toList.countP (eqk k) = ns.count k := eqk_count hi
      refine call_meets PySem.F.slot_tuple_count ⟨_, hget, rfl⟩ PySem.F.entry_tuple_count (PySem.F.args_tuple_count_2 _ _)
        (SeqAt.tuple_countAt a its2.toArray n dd sl (.int k t) (eqk k)) ⟨hget, (fun z hz => (eqk_gives hi z (by simpa using hz)).at _ _), ?_⟩
      refine ⟨r, S2, .int (ns.count k : Nat), μ2, H2, by rw [e1, bind_ok]; exact e2, I2.tok _, ⟨s2.toks, ?_⟩, st2, by rw [er]; exact ResOk.plain (by unfold Rep; rfl)⟩
      rw [ec]
  · exact F1.elim
end
section
variable {ρ : Env'} {S : Store} {a b : M D}
@[simp] theorem x_deep : mDeep a ρ S = (a ρ S).bind fun d S1 => .ok (deepD d) S1 := (rfl)
@[simp] theorem x_tcnt : mTCnt a b ρ S = (a ρ S).bind fun o S1 => match o with
  | .ptup ds => (b ρ S1).bind fun e S2 => Out.of (pcntD (.ptup ds) e) S2
  | _ => .fail := (rfl)
@[simp] theorem deep_tup {ds : List D} : deepD (.tup ds) = .tup (deepL ds) := by unfold deepD; rfl
@[simp] theorem deep_ptup {ds : List D} : deepD (.ptup ds) = .tup (deepL ds) := by unfold deepD; rfl
@[simp] theorem deep_int {i : Int} : deepD (.int i) = .int i := by unfold deepD; rfl
@[simp] theorem deepL_nil : deepL [] = [] := by unfold deepL; rfl
@[simp] theorem deepL_cons {d : D} {ds : List D} : deepL (d :: ds) = deepD d :: deepL ds := by conv => lhs; unfold deepL
theorem deepL_map (ds : List D) : deepL ds = ds.map deepD := by
  induction ds with
  | nil => exact deepL_nil
  | cons d ds ih => rw [deepL_cons, ih]; rfl
theorem deep_ints (ns : List Int) : deepL (ns.map .int) = ns.map .int := by
  rw [deepL_map, List.map_map]
  exact List.map_congr_left fun i _ => deep_int
mutual
theorem deep_pl {nb : Bool} : ∀ (d : D) (n : Nat), d.pl nb n = true → deepD d = d
  | .tup ds, n + 1, h => by
    unfold D.pl at h
    rw [deep_tup, deep_plL ds n h]
  | .tup ds, 0, h => by unfold D.pl at h; cases h
  | .ptup ds, n, h => by unfold D.pl at h; cases h
  | .non, _, _ => by unfold deepD; rfl
  | .bl _, _, _ => by unfold deepD; rfl
  | .int _, _, _ => by unfold deepD; rfl
  | .str _, _, _ => by unfold deepD; rfl
  | .ref _, _, _ => by unfold deepD; rfl
  | .fro _, _, _ => by unfold deepD; rfl
  | .lst _, _, _ => by unfold deepD; rfl
  | .obj _ _ _, _, _ => by unfold deepD; rfl
  | .dk _ _, _, _ => by unfold deepD; rfl
  | .dt _ _, _, _ => by unfold deepD; rfl
  | .exn _ _ _ _, _, _ => by unfold deepD; rfl
theorem deep_plL {nb : Bool} : ∀ (ds : List D) (n : Nat), plL nb n ds = true → deepL ds = ds
  | [], _, _ => deepL_nil
  | d :: ds, n, h => by
    unfold plL at h
    rw [Bool.and_eq_true] at h
    rw [deepL_cons, deep_pl d n h.1, deep_plL ds n h.2]
end
end
end Ev
set_option maxHeartbeats 2000000
/-! Ev29: a law's end over a head by facts, for what the printer prints. -/
namespace Ev
open PySem PySem.Spec PyProof.Rows L2
theorem walk_x {l : PySem.W.OpenLaw} {q : Program} {loose : List Str} {XP : (Str → Option Value) → Heap → Prop} {YP : World → Heap → Prop} {d : DefRec} {x : Str} {k : Nat} (hn : l.most = some 63) (hdf : d.params.defaults = []) (hr : Room k callerA)
    (F : ∀ (w : World) (mg : Str → Option Value) (fa : Addr) (h : Heap), YP w h → h.Ns mainGlobals mg → mg d.name = some (.ref fa) →
      ∃ (K : PySem.W.Frag) (fd : FuncData), K.In h ∧ (∀ (s : Shared) (u : Value), BindsTo s fd ⟨[u], []⟩ [(x, u)]) ∧ ∀ base : Heap, K.In base → base.Ns mainGlobals mg → FnOk l.prog w K mg base (L2N.CX l.prog w) k fa fd [x] (spLaw K)) :
    PySem.W.WalkO q loose XP YP l.row.toRowW d [] (fun f vs => PySem.call f vs) := by
  refine Att.attach_callB (n := 63) hn hdf fun w s₀ s₁ mg mb fa o pm cd doc a vs ns G Y ho hd hcd hmg hobj hints hlen hbits hg => ?_
  obtain ⟨K, fd, KX, hb, hF⟩ := F w mg fa _ Y G.T.g hmg
  exact law_call KX G.T.g G.T.b G.T.builtins G.T.nolimit hg hobj hints (Nat.le_trans hlen (by decide)) hr hF hb (fun H hO hS => ⟨a, ns, rfl, hS, hO, hlen, hbits, fun _ => rfl⟩) fun H e s' z => cx_false z
section
variable {K : PySem.W.Frag} {w : World}
theorem fun_of {x qual : Str} {st : Stmt} {f : Addr} {fd : FuncData} {kws : List (Str × V)} (F : FunD K x qual (defArgs st) (defBody st) (defScope st) [] kws f fd) : Fun K x qual st f fd := by
  obtain ⟨oc, od, dV, kV, doc, pm, an, cdv, ct, osl, e, lk, hcd, hD, hK⟩ := F.ex
  rcases hD with ⟨_, rfl⟩ | ⟨z, _⟩
  · exact ⟨⟨oc, od, kV, doc, pm, an, cdv, ct, osl, e, lk, hcd⟩, F.kp⟩
  · exact absurd rfl z
theorem meth_at {C m : Str} {f : Addr} (h : (He.Fa.meth C m).ok K = true) (e : He.ma K (He.ga K C) m = f) : Meth K (He.ga K C) m f := e ▸ He.meth_ok h
theorem mkr_at {C : Str} {f : Addr} (h : (He.Fa.mkr C).ok K = true) (e : He.ma K (He.ga K C) "__init__" = f) : Mk K (He.ga K C) f := e ▸ He.mkr_ok h
theorem cdic_tx {x k : Str} {xs : List Str} {tb : List (Str × Option D)} (h : txB K (x, k, xs) = true) (r : CDic K w (He.ga K x) tb) : CDic K w (He.ga K x) ((k, some (.tup (xs.map .str))) :: tb) := by
  unfold txB at h
  cases e : PySem.W.nsIn K (He.ga K x) k with
  | none => simp only [e] at h; cases h
  | some o =>
    cases o with
    | none => simp only [e] at h; cases h
    | some u =>
      cases u with
      | ref a =>
        simp only [e] at h
        cases q : K.lookup a with
        | none => rw [q] at h; cases h
        | some ob =>
          obtain ⟨oc, od, dt, osl⟩ := ob
          rw [q] at h
          cases oc with
          | type c =>
            cases dt with
            | seq its n =>
              obtain ⟨h1, h2⟩ := He.ba (show (decide (c = "tuple") && (decide (its.size ≤ 1000) && He.relAll (xs.map V.str) its.toList)) = true from h)
              obtain ⟨h3, h4⟩ := He.ba h2
              exact CDic.has_cons (v := .ref a) e rfl rfl (fun _ _ => rep_ktup q (congrArg Value.type (of_decide_eq_true h1)) rfl (of_decide_eq_true h3) (He.relAll_ok h4)) r
            | _ => cases h
          | _ => cases dt <;> cases h
      | _ => simp only [e] at h; cases h
end
end Ev
/-! Ev30: except C as n. -/
namespace Ev
open PySem PySem.Spec PyProof.Rows L2
section
variable {X : Cx} {W : WX}
/-- isinstance(e, c), e held by the suite, with a dict of its own or none -/
def rIsX (K : PySem.W.Frag) (D a : Addr) (d : Option Addr) : List V → Hp → VK → Prop := fun xs H Q => ∃ (c : V) (cv : Value) (b : Bool), xs = [.ref a, c] ∧ (∀ u, RelV c u → u = cv) ∧ PySem.W.kitOne K (.ref D) cv = some b ∧
  (∀ x, d = some x → ∃ fs, H x = some (.xd fs)) ∧ Q (.bl b) H
theorem call_isX {a D : Addr} {d : Option Addr} {oe : Obj} {pn : List (Addr × Obj)} (C : ExcC X.K D) (hz : Zc (.ref D) d oe) (hf : ∃ vs, oe.data = .fields vs) : CallR (X.suite a ((a, oe) :: pn)) (.builtin "isinstance") (rIsX X.K D a d) := by
  intro pins s σ H xs us Q I r h
  obtain ⟨c, cv, b, rfl, hcv, e, hx, q⟩ := h
  cases r with
  | cons rx rr =>
    cases rr with
    | cons rt rr =>
      cases rr
      cases rx
      have ec := hcv _ rt
      subst ec
      obtain ⟨hget, _⟩ := I.pin (a, oe) (List.mem_append.mpr (.inl List.mem_cons_self))
      obtain ⟨vs, hv⟩ := hf
      obtain ⟨cdD, hcD, _⟩ := PySem.W.any_some C.hd
      have nc : PySem.W.notCls oe = true := by unfold PySem.W.notCls; rw [hv] <;> rfl
      have J : ∃ od, PySem.W.InstAt s.heap a oe D od := by
        cases d with
        | none => exact ⟨none, hget, hz.1, nc, by rw [hz.2]; trivial⟩
        | some x =>
          obtain ⟨fs, hfs⟩ := hx x rfl
          have hx : ObjOk X.prog X.w H s.heap x (.xd fs) := I.hok x _ hfs
          obtain ⟨mA, hns, _⟩ := hx
          obtain ⟨od, ho, _⟩ := lookIn_ns hns
          exact ⟨some od, hget, hz.1, nc, by rw [hz.2]; exact ho⟩
      obtain ⟨od, J⟩ := J
      exact PySem.W.kia_one (PySem.W.kitx_exc (by rw [hcD] <;> rfl) C.hg C.hk C.hs C.ha C.hn C.ht C.hm) I.kIn J e (fun z => nomatch z) fun tk => ⟨.bl b, H, I.kept (t' := tk) fun _ _ z => z, rfl, q⟩
def xheldD (ρ : Env') (i : Nat) (a : Addr) (d : Option Addr) : Option (List Str × List D) := match ρ[i]? with
  | some (some (.exn a' d' ks ds)) => if a' = a ∧ d' = d then some (ks, ds) else none
  | _ => none
def mIsE (i : Nat) (a : Addr) (d : Option Addr) (o : Option Bool) : M D := fun ρ S => match xheldD ρ i a d with
  | some _ => Out.of (o.map D.bl) S
  | none => .fail
theorem xheld_ok {K : PySem.W.Frag} {μ : List Addr} {H : Hp} {ρ : Env'} {σ : L2.St} {i : Nat} {a : Addr} {d : Option Addr} {ks : List Str} {ds : List D} (E : EnvOk K μ H ρ σ) (h : xheldD ρ i a d = some (ks, ds)) :
    σ[i]? = some (some (.ref a)) ∧ ∀ x, d = some x → ∃ vs, H x = some (.xd (ks.zip vs)) ∧ ks.length = ds.length ∧ RepL K μ H ds vs := by
  unfold xheldD at h
  split at h
  · rename_i a' d' ks' ds' e
    split at h
    · rename_i q
      obtain ⟨rfl, rfl⟩ := q
      cases h
      obtain ⟨v, e1, r⟩ := E.at_ i _ e
      unfold Rep at r
      obtain ⟨rfl, _, r⟩ := r
      exact ⟨e1, r⟩
    · cases h
  · cases h
/-- the class c, asked of what exceptions there are -/
structure IsT (K : PySem.W.Frag) (mg : Str → Option Value) (x : Str) (l : List (Str × Bool)) : Prop where
  ex : ∃ (c : V) (cv : Value), RelV c cv ∧ (∀ u, RelV c u → u = cv) ∧ (mg x = some cv ∨ (mg x = none ∧ bootBuiltins x = some cv ∧ x ≠ "__name__")) ∧
    ∀ c' b C', l.lookup c' = some b → mg c' = some (.ref C') → ExcC K C' ∧ PySem.W.kitOne K (.ref C') cv = some b
theorem ev_isE {i : Nat} {a D : Addr} {d : Option Addr} {oe : Obj} {pn : List (Addr × Obj)} {n x c' : Str} {l : List (Str × Bool)} {p p1 p2 pos : Pos} (hc' : X.mg c' = some (.ref D)) (hz : Zc (.ref D) d oe) (hf : ∃ vs, oe.data = .fields vs)
    (hN : X.N[i]? = some n) (hv : Vis X.env.scope n) (hd : (n == ("__debug__" : Str)) = false) (hcd : (n == ("__classdict__" : Str)) = false) (hg : Gl X "isinstance") (hm : X.mg "isinstance" = none) (hg2 : Gl X x) (hT : IsT X.K X.mg x l) (hdx : (x == ("__debug__" : Str)) = false) :
    EvE (X.suite a ((a, oe) :: pn)) W (.Call (.Name "isinstance" p) [.Name n p1, .Name x p2] [] pos) (mIsE i a d (l.lookup c')) := by
  obtain ⟨c, cv, rc, hcv, hx, hl⟩ := hT.ex
  have hX : PE (X.suite a ((a, oe) :: pn)) (.Name x p2) (tC c) := by
    rcases hx with hx | ⟨h1, h2, h3⟩
    · exact pe_glob (X := X.suite a ((a, oe) :: pn)) hg2 hx rc hdx
    · exact pe_bltn (X := X.suite a ((a, oe) :: pn)) hg2 h1 h2 rc h3 hdx
  cases q : l.lookup c' with
  | none =>
    refine ⟨fun pins s σ H μ S ρ I R E F => ?_⟩
    unfold mIsE at F
    split at F <;> exact F.elim
  | some b =>
    obtain ⟨T, hk⟩ := hl c' b D q hc'
    refine EvE.of_pe (pe_callB (X := X.suite a ((a, oe) :: pn)) (call_isX T hz hf) hg hm (by decide +kernel) (pa_cons (pe_var (X := X.suite a ((a, oe) :: pn)) (i := i) hN hv hd hcd) (pa_cons hX pa_nil rfl) rfl) (by decide) (by decide) rfl rfl) fun σ H μ S ρ R E F => ?_
    unfold mIsE at F ⊢
    split at F
    · rename_i kd hh
      obtain ⟨e1, e2⟩ := xheld_ok (ks := kd.1) (ds := kd.2) E hh
      refine ⟨.ref a, e1, c, cv, b, rfl, hcv, hk, fun x hx => ?_, .bl b, S, μ, rfl, Step.refl R, res_bl⟩
      obtain ⟨vs, h1, _⟩ := e2 x hx
      exact ⟨_, h1⟩
    · exact F.elim
/-- e.f -/
structure XfT (K : PySem.W.Frag) (mg : Str → Option Value) (f : Str) (l : List Str) : Prop where
  ok : ∀ c' C', c' ∈ l → mg c' = some (.ref C') → XfC K C' ∧ PySem.W.findIn K (.ref C') f = some none
def mXf (i : Nat) (a : Addr) (d : Option Addr) (b : Bool) (f : Str) : M D := fun ρ S => match xheldD ρ i a d, d with
  | some (ks, ds), some _ => if b = true then Out.of (lookO f ks ds) S else .fail
  | _, _ => .fail
theorem ev_xf {i : Nat} {a D : Addr} {d : Option Addr} {oe : Obj} {pn : List (Addr × Obj)} {n f c' : Str} {l : List Str} {p pos : Pos} (hc' : X.mg c' = some (.ref D)) (hz : Zc (.ref D) d oe) (hf : ∃ vs, oe.data = .fields vs)
    (hN : X.N[i]? = some n) (hv : Vis X.env.scope n) (hd : (n == ("__debug__" : Str)) = false) (hcd : (n == ("__classdict__" : Str)) = false) (hT : XfT X.K X.mg f l) :
    EvE (X.suite a ((a, oe) :: pn)) W (.Attribute (.Name n p) f pos) (mXf i a d (inB l c') f) := by
  cases q : inB l c' with
  | false =>
    refine ⟨fun pins s σ H μ S ρ I R E F => ?_⟩
    unfold mXf at F
    split at F
    · simp at F; exact F.elim
    · exact F.elim
  | true =>
    obtain ⟨T, hno⟩ := hT.ok c' D (of_decide_eq_true q) hc'
    refine EvE.of_pe (pe_xf (X := X) T hno hz hf (pe_var (X := X.suite a ((a, oe) :: pn)) (i := i) hN hv hd hcd)) fun σ H μ S ρ R E F => ?_
    unfold mXf at F ⊢
    split at F
    · rename_i ks ds dd hh
      obtain ⟨e1, e2⟩ := xheld_ok E hh
      obtain ⟨vs, h1, h2, h3⟩ := e2 _ rfl
      rw [if_pos rfl] at F
      obtain ⟨r, er⟩ := fine_of F
      obtain ⟨w, hw, rw'⟩ := lookO_ok er h3
      refine ⟨.ref a, e1, rfl, rfl, dd, _, w, rfl, h1, hw, r, S, μ, by rw [if_pos rfl, er]; rfl, Step.refl R, ResOk.plain rw'⟩
    · exact F.elim
/-- behind the suite the name is gone -/
def unb (i : Nat) : SOut → SOut
  | .next ρ S => .next (ρ.set i none) S
  | .brk ρ S => .brk (ρ.set i none) S
  | .cont ρ S => .cont (ρ.set i none) S
  | .ret d S => .ret d S
  | _ => .fail
def asE (i : Nat) (E : Ends) : Ends := { nx := fun σ' H' => E.nx (σ'.set i none) H', rt := E.rt, bk := fun σ' H' => E.bk (σ'.set i none) H', ct := fun σ' H' => E.ct (σ'.set i none) H' }
theorem EnvOk.unset2 {K : PySem.W.Frag} {μ : List Addr} {H : Hp} {ρ : Env'} {σ : L2.St} (i : Nat) (h : EnvOk K μ H ρ σ) : EnvOk K μ H (ρ.set i none) (σ.set i none) := by
  refine ⟨by simp [h.len], fun j e q => ?_⟩
  rw [List.getElem?_set] at q ⊢
  split at q
  · split at q <;> cases q
  · rename_i hi
    rw [if_neg hi]
    exact h.at_ j e q
theorem unb_good {W : WX} {K : PySem.W.Frag} {mg : Str → Option Value} {W' : WX} {E : Ends} {μ : List Addr} {H : Hp} {i : Nat} {r : SOut} (h : GoodS K mg W E μ H (unb i r)) : GoodS K mg W' (asE i E) μ H r := by
  cases r with
  | next ρ S => exact fun σ' μ' H' st e => h _ μ' H' st (EnvOk.unset2 i e)
  | brk ρ S => exact fun σ' μ' H' st e => h _ μ' H' st (EnvOk.unset2 i e)
  | cont ρ S => exact fun σ' μ' H' st e => h _ μ' H' st (EnvOk.unset2 i e)
  | ret d S => exact h
  | exc c ks ds ρ S => exact h.elim
  | fail => exact h.elim
abbrev MX := Addr → Option Addr → Str → MS
open Classical in
noncomputable def asOut (i : Nat) (ms : MX) (c : Str) (ks : List Str) (ds : List D) : MS := fun ρ S =>
  if h : ∃ r, ∀ a dx, (dx = none → ds = []) → unb i (ms a dx c (ρ.set i (some (.exn a dx ks ds))) S) = r then h.choose else .fail
noncomputable def sTryAs (isx : Str → Option Bool) (i : Nat) (mb : MS) (ms : MX) : MS := fun ρ S => match mb ρ S with
  | .exc c ks ds ρ1 S1 => match isx c with
    | some true => asOut i ms c ks ds ρ1 S1
    | some false => .exc c ks ds ρ1 S1
    | none => .fail
  | r => r
theorem asOutF_eq {i : Nat} {ms : MX} {c : Str} {ks : List Str} {ds : List D} {ρ : Env'} {S : Store} {r : SOut} (h : ∀ a dx, (dx = none → ds = []) → unb i (ms a dx c (ρ.set i (some (.exn a dx ks ds))) S) = r) : asOut i ms c ks ds ρ S = r := by
  unfold asOut
  have hx : ∃ r, ∀ a dx, (dx = none → ds = []) → unb i (ms a dx c (ρ.set i (some (.exn a dx ks ds))) S) = r := ⟨r, h⟩
  rw [dif_pos hx]
  have := hx.choose_spec default (some default) (fun e => nomatch e)
  rw [← this]
  exact h _ _ (fun e => nomatch e)
theorem asOut_eq {i : Nat} {ms : MX} {c : Str} {ks : List Str} {ds : List D} {ρ : Env'} {S : Store} {r : SOut} (h : ∀ a dx, unb i (ms a dx c (ρ.set i (some (.exn a dx ks ds))) S) = r) : asOut i ms c ks ds ρ S = r := asOutF_eq fun a dx _ => h a dx
theorem evs_tryAs {x n : Str} {c : Value} {i : Nat} {body suite : List Stmt} {b0 : Stmt} {np pos pos' : Pos} {isx : Str → Option Bool} {mb : MS} {ms : MX} (hs : X.stack = X.env :: X.outer) (hf : X.env.frame = some X.env.locals) (hN : X.N.Nodup) (hi0 : X.N[i]? = some n) (hln : X.env.kindOf n = some .local) (hc : Names X x c) (tk : L2N.Takes X W)
    (hi : ∀ c' b C', isx c' = some b → X.mg c' = some (.ref C') → PySem.W.exmOne X.K (.ref C') c = some b)
    (hb : ∀ (W : WX) (pn : List (Addr × Obj)) (xe : Value → Shared → Prop), L2N.Takes (X.tr pn xe) W → PassesOwn (model X.prog X.w) X.A X.env xe → EvSs (X.tr pn xe) W body mb)
    (hsu : ∀ (a : Addr) (oe : Obj) (d : Option Addr) (pn : List (Addr × Obj)) (c' : Str) (D : Addr), X.mg c' = some (.ref D) → Zc (.ref D) d oe → (∃ vs, oe.data = .fields vs) → L2H.HotC (X.suite a ((a, oe) :: pn)) → EvSs (X.suite a ((a, oe) :: pn)) W (b0 :: suite) (ms a d c')) :
    EvS X W (.Try body [.ExceptHandler (some (.Name x np)) (some n) (b0 :: suite) pos'] [] [] pos) (sTryAs isx i mb ms) := by
  refine PS.imp (L2N.ps_try_as (i := i) hs hf hN hi0 hln hc tk (tb := fun W => TMs X W mb) (ts := fun a cls d D σ H => ∃ c' C', X.mg c' = some (.ref C') ∧ cls = .ref C' ∧ TMs X W (ms a d c') D σ H) (fun W pn xe t p => hb W pn xe t p) (fun a oe cls d pn hz hfl => ?_)) fun E σ H ⟨μ, S, ρ, R, En, G⟩ => ?_
  · refine ⟨fun pins s σ H D I ⟨c', C', h1, h2, h3⟩ => ?_⟩
    subst h2
    obtain ⟨vs, hv⟩ := hfl
    exact (hsu a oe d pn c' C' h1 hz.zc ⟨vs, hv⟩ ⟨(a, oe), ⟨rfl, vs, hv, hz.2.2 vs hv⟩, List.mem_cons_self⟩).run pins s σ H D I h3
  refine ⟨μ, S, ρ, R, En, ?_⟩
  unfold sTryAs at G
  cases hm : mb ρ S with
  | exc c' ks ds ρ1 S1 =>
    rw [hm] at G
    intro cls dx σ' μ' H' st En' xr
    obtain ⟨C', g1, e1, h2⟩ := id xr
    subst e1
    dsimp only at G
    cases hq : isx c' with
    | none => rw [hq] at G; exact G.elim
    | some b =>
      rw [hq] at G
      refine ⟨b, hi c' b C' hq g1, fun eb a ha => ?_, fun eb => ?_⟩
      · subst eb
        dsimp only at G
        unfold asOut at G
        split at G
        · rename_i hh
          have hsp := hh.choose_spec a dx (fun e => by subst e; exact h2.2)
          refine ⟨c', C', g1, rfl, μ', S1, ρ1.set i (some (.exn a dx ks ds)), st.rel, En'.set i ?_, unb_good (W := W) (i := i) (E := E) ?_⟩
          · unfold Rep
            refine ⟨rfl, fun e => ?_, fun x hx => ?_⟩
            · subst e; exact h2.2
            · subst hx
              exact h2
          · rw [hsp]
            exact GoodS.back R st G
        · exact G.elim
      · subst eb
        exact G (.ref C') dx σ' μ' H' st En' xr
  | next _ _ => rw [hm] at G; exact G
  | brk _ _ => rw [hm] at G; exact G
  | cont _ _ => rw [hm] at G; exact G
  | ret _ _ => rw [hm] at G; exact G
  | fail => rw [hm] at G; exact G.elim
theorem evs_tryAsT {x n : Str} {i : Nat} {l : List (Str × Bool)} {body suite : List Stmt} {b0 : Stmt} {np pos pos' : Pos} {mb : MS} {ms : MX} (hs : X.stack = X.env :: X.outer) (hf : X.env.frame = some X.env.locals) (hN : X.N.Nodup) (hi0 : X.N[i]? = some n) (hln : X.env.kindOf n = some .local) (hg : Gl X x) (hd : (x == ("__debug__" : Str)) = false) (h : HdT X.K X.mg x l) (tk : L2N.Takes X W)
    (hb : ∀ (W : WX) (pn : List (Addr × Obj)) (xe : Value → Shared → Prop), L2N.Takes (X.tr pn xe) W → PassesOwn (model X.prog X.w) X.A X.env xe → EvSs (X.tr pn xe) W body mb)
    (hsu : ∀ (a : Addr) (oe : Obj) (d : Option Addr) (pn : List (Addr × Obj)) (c' : Str) (D : Addr), X.mg c' = some (.ref D) → Zc (.ref D) d oe → (∃ vs, oe.data = .fields vs) → L2H.HotC (X.suite a ((a, oe) :: pn)) → EvSs (X.suite a ((a, oe) :: pn)) W (b0 :: suite) (ms a d c')) :
    EvS X W (.Try body [.ExceptHandler (some (.Name x np)) (some n) (b0 :: suite) pos'] [] [] pos) (sTryAs (isxOf l) i mb ms) := by
  obtain ⟨C, hm, hx⟩ := h.ex
  exact evs_tryAs hs hf hN hi0 hln ⟨hg, hd, .inl hm⟩ tk (fun c' b C' e g => hx.ok c' b C' e g) hb hsu
/-! ### plain tools -/
variable {ρ : Env'} {S : Store}
theorem tryAs_wp {isx : Str → Option Bool} {i : Nat} {mb : MS} {ms : MX} {N : Env' → Store → Prop} {R : D → Store → Prop} {B C : Env' → Store → Prop} {E : XP} (h : ∀ r, r = mb ρ S → match r with
    | .next ρ1 S1 => N ρ1 S1
    | .ret d S1 => R d S1
    | .brk ρ1 S1 => B ρ1 S1
    | .cont ρ1 S1 => C ρ1 S1
    | .exc c ks ds ρ1 S1 => match isx c with
      | some true => (asOut i ms c ks ds ρ1 S1).wp N R B C E
      | some false => E c ks ds S1
      | none => False
    | .fail => False) : (sTryAs isx i mb ms ρ S).wp N R B C E := by
  have := h _ rfl
  unfold sTryAs
  cases q : mb ρ S with
  | exc c ks ds ρ1 S1 =>
    rw [q] at this
    dsimp only at this ⊢
    cases z : isx c with
    | none => rw [z] at this; exact this.elim
    | some b => rw [z] at this; cases b <;> exact this
  | _ => rw [q] at this; exact this
/-- a try around one expression, as n -/
def XTa (isx : Str → Option Bool) (ms : Str → List Str → List D → Store → SOut) (N : Env' → Store → Prop) (R : D → Store → Prop) (B C : Env' → Store → Prop) (X : XP) : XP := fun c ks ds S1 => match isx c with
  | some true => (ms c ks ds S1).wp N R B C X
  | some false => X c ks ds S1
  | none => False
theorem tryAs_expr {isx : Str → Option Bool} {i : Nat} {m : M D} {ms : MX} {N : Env' → Store → Prop} {R : D → Store → Prop} {B C : Env' → Store → Prop} {X : XP} (h : (m ρ S).wp (fun _ S1 => N ρ S1) (XTa isx (fun c ks ds => asOut i ms c ks ds ρ) N R B C X)) : (sTryAs isx i (sExpr m) ms ρ S).wp N R B C X := by
  refine tryAs_wp fun r hr => ?_
  subst hr
  rw [x_expr]
  cases q : m ρ S with
  | ok d S1 => rw [q] at h; exact h
  | exc c ks ds S1 => rw [q] at h; exact h
  | fail => rw [q] at h; exact h
theorem xheld_at {i : Nat} {a : Addr} {d : Option Addr} {ks : List Str} {ds : List D} (h : ρ[i]? = some (some (.exn a d ks ds))) : xheldD ρ i a d = some (ks, ds) := by
  unfold xheldD; rw [h]; exact if_pos ⟨rfl, rfl⟩
theorem isE_at {i : Nat} {a : Addr} {d : Option Addr} {ks : List Str} {ds : List D} {b : Bool} (h : ρ[i]? = some (some (.exn a d ks ds))) : mIsE i a d (some b) ρ S = .ok (.bl b) S := by
  unfold mIsE; rw [xheld_at h]; rfl
end
end Ev
namespace Ev
open PySem PySem.Spec PyProof.Rows L2
section
variable {K : PySem.W.Frag} {mg : Str → Option Value}
theorem xcB_ok {x : Str} (h : xcB K x = true) : ExcC K (He.ga K x) := by
  unfold xcB at h
  obtain ⟨h1, h⟩ := He.ba h
  obtain ⟨h2, h⟩ := He.ba h
  obtain ⟨h3, h⟩ := He.ba h
  obtain ⟨h4, h⟩ := He.ba h
  obtain ⟨h5, h⟩ := He.ba h
  obtain ⟨h6, h⟩ := He.ba h
  obtain ⟨h7, h8⟩ := He.ba h
  exact ⟨He.eqO_ok h1, He.eqO_ok h2, of_decide_eq_true h3, h4, He.eqO_ok h5, He.eqO_ok h6, of_decide_eq_true h7, of_decide_eq_true h8⟩
abbrev IsL (K : PySem.W.Frag) (mg : Str → Option Value) (cv : Value) (l : List (Str × Bool)) : Prop := ∀ c' b C', l.lookup c' = some b → mg c' = some (.ref C') → ExcC K C' ∧ PySem.W.kitOne K (.ref C') cv = some b
theorem isT_nil {cv : Value} : IsL K mg cv [] := fun _ _ _ h => nomatch h
theorem isT_cons {cv : Value} {x : Str} {b : Bool} {C : Addr} {l : List (Str × Bool)} (h : mg x = some (.ref C)) (T : ExcC K C) (e : PySem.W.kitOne K (.ref C) cv = some b) (r : IsL K mg cv l) : IsL K mg cv ((x, b) :: l) := fun c' b' C' hl hm => by
  rw [List.lookup_cons] at hl
  by_cases e' : c' = x
  · subst e'
    rw [beq_self_eq_true] at hl
    cases hl
    rw [h] at hm; cases hm
    exact ⟨T, e⟩
  · rw [beq_eq_false_iff_ne.mpr e'] at hl
    exact r c' b' C' hl hm
abbrev XfL (K : PySem.W.Frag) (mg : Str → Option Value) (f : Str) (l : List Str) : Prop := ∀ c' C', c' ∈ l → mg c' = some (.ref C') → XfC K C' ∧ PySem.W.findIn K (.ref C') f = some none
theorem xfT_cons {f x : Str} {C : Addr} {l : List Str} (h : mg x = some (.ref C)) (T : ExcC K C) (e : PySem.W.findIn K (.ref C) f = some none) (r : XfL K mg f l) : XfL K mg f (x :: l) := fun c' C' hc hm => by
  rcases List.mem_cons.mp hc with rfl | z
  · rw [h] at hm; cases hm; exact ⟨⟨T.hg, T.hk, T.hs, T.hd⟩, e⟩
  · exact r c' C' z hm
end
section
variable {ρ : Env'} {S : Store}
theorem x_isE {i : Nat} {a : Addr} {d : Option Addr} {o : Option Bool} : mIsE i a d o ρ S = match xheldD ρ i a d with
  | some _ => Out.of (o.map D.bl) S
  | none => .fail := rfl
theorem x_xf {i : Nat} {a : Addr} {d : Option Addr} {b : Bool} {f : Str} : mXf i a d b f ρ S = match xheldD ρ i a d, d with
  | some (ks, ds), some _ => if b = true then Out.of (lookO f ks ds) S else .fail
  | _, _ => .fail := rfl
theorem asOutF_wp {i : Nat} {ms : MX} {c : Str} {ks : List Str} {ds : List D} {r : SOut} {N : Env' → Store → Prop} {R : D → Store → Prop} {B C : Env' → Store → Prop} {X : XP} (h : ∀ a dx, (dx = none → ds = []) → unb i (ms a dx c (ρ.set i (some (.exn a dx ks ds))) S) = r) (q : r.wp N R B C X) : (asOut i ms c ks ds ρ S).wp N R B C X := by
  rw [asOutF_eq h]; exact q
theorem xf_at {i : Nat} {a x : Addr} {ks : List Str} {ds : List D} {f : Str} {d : D} (h : ρ[i]? = some (some (.exn a (some x) ks ds))) (hl : lookO f ks ds = some d) : mXf i a (some x) true f ρ S = .ok d S := by
  unfold mXf; rw [xheld_at h]; dsimp only; rw [if_pos rfl, hl]; rfl
theorem asOut_wp {i : Nat} {ms : MX} {c : Str} {ks : List Str} {ds : List D} {r : SOut} {N : Env' → Store → Prop} {R : D → Store → Prop} {B C : Env' → Store → Prop} {X : XP} (h : ∀ a dx, unb i (ms a dx c (ρ.set i (some (.exn a dx ks ds))) S) = r) (q : r.wp N R B C X) : (asOut i ms c ks ds ρ S).wp N R B C X := by
  rw [asOut_eq h]; exact q
end
end Ev
/-! Ev31: sorted(set(a list of ints)). -/
namespace Ev
open PySem PySem.Spec PyProof.Rows L2
section
variable {P : Program} {w : World} {A : Around} {E : Value → Shared → Prop} {s : Shared}
/-- a built-in class called: its two parts given as codes -/
theorem callT_two {T n1 n2 : String} {us : List Value} {Q Q1 : Value → Shared → Prop} (ft : TypeCalled T n1 n2) (hct : checkTypeCall T ⟨us, []⟩ = pure ())
    (c1 : codeAny (model P w) A.in1 (.call (.builtin n1) ⟨.type T :: us, []⟩) (wants Q1 E) s)
    (c2 : ∀ o s1, Q1 o s1 → s1.TypeIs o T ∧ codeAny (model P w) A.in1 (.call (.builtin n2) ⟨o :: us, []⟩) (wants (fun r s2 => r = .none ∧ Q o s2) E) s1) :
    wpAny (model P w) A (call (.type T) us) Q E s := by
  obtain ⟨m0, mt, hm⟩ := ft.mro
  have a1 := ft.made; have a2 := ft.sub; have a3 := ft.notType; have a4 := ft.canCreate
  refine wpAny_call (codeAny_of_tree (show wpAny _ _ (callAny (.type T) _) _ _ _ from wpAny_pure ⟨Code.quiet_builtin _ (by decide +kernel), codeAny_builtin F.entry_type_call ?_⟩))
  rw [Around.under_plain (weight_type_call_type T us []) rfl]
  repeat (any_goals (first | assumption | wp_step))
  refine codeAny_mono c1 fun r s1 hr => ?_
  match r, hr with
  | .ok (.ret o), hr =>
    obtain ⟨hT, h2⟩ := c2 o s1 hr
    have b1 := ft.init.lookup; have b2 := ft.init.bind o
    repeat (any_goals (first | assumption | wp_step))
    refine codeAny_mono h2 fun r2 s2 hr2 => ?_
    match r2, hr2 with
    | .ok (.ret u), hr2 =>
      obtain ⟨rfl, q⟩ := hr2
      repeat (any_goals (first | assumption | wp_step))
    | .error e, hr2 => exact hr2
    | .ok .next, hr2 => exact hr2.elim
    | .ok .brk, hr2 => exact hr2.elim
    | .ok .cont, hr2 => exact hr2.elim
  | .error e, hr => exact hr
  | .ok .next, hr => exact hr.elim
  | .ok .brk, hr => exact hr.elim
  | .ok .cont, hr => exact hr.elim
theorem set_ints {l : Addr} {items : Array Value} (ns : List Int) {Q : Value → Shared → Prop} (hh : A.handled = none) (hl : s.heap.IsList l items) (hit : IntsAre items.toList ns) (hb : ns.length + 1 < scanBound)
    (q : ∀ (h' : Heap) (tk c : Nat), SetR w h' s.heap.objs.size (fun j => decide (j ∈ ns)) c → c ≤ ns.length → (∀ b o, s.heap.get? b = some o → h'.get? b = some o) → Q (.ref s.heap.objs.size) { s with heap := h', toks := tk }) :
    wpAny (model P w) A (call (.type "set") [.ref l]) Q E s := by
  have hsz : items.size = ns.length := by rw [← Array.length_toList]; exact IntsAre.length hit
  have hlt : l < s.heap.objs.size := let ⟨_, e, _⟩ := hl; Heap.lt_size e
  let e0 : Obj := { cls := .type "set", dict := none, data := .set #[] 0 (.fresh 0 0 (!w.params.followText "set-order")) }
  let s1 : Shared := { s with heap := s.heap.push e0 }
  refine callT_two (Q1 := fun o s' => o = .ref s.heap.objs.size ∧ s' = s1) F.called_set (F.typeCall_set_1 (.ref l)) (code_set_led1 (.ref l) ⟨rfl, rfl⟩) ?_
  rintro o s' ⟨rfl, rfl⟩
  have hS : s1.heap.get? s.heap.objs.size = some e0 := Heap.get?_push_size _ rfl
  have hT : s1.TypeIs (.ref s.heap.objs.size) "set" := ⟨_, hS, rfl⟩
  refine ⟨hT, codeAny_call_builtin F.called_set.init.plain F.entry_set_init (check_set_init_1 hT ?_)⟩
  obtain ⟨oc, hoc, hcl, nl, hdl⟩ := hl
  obtain ⟨kc, kd, kt, ks⟩ := oc
  dsimp only at hcl hdl
  subst hcl; subst hdl
  have hol : s1.heap.get? l = some { cls := .type "list", dict := kd, data := .seq items nl, slots := ks } := Heap.get?_push_of_some _ hoc
  have f1 := F.sub_list_set; have f2 := F.sub_list_frozenset
  have f3 : (Value.type "list" == Value.type "dict") = false := by decide
  have hl1 : s1.heap.IsList l items := ⟨_, hol, rfl, nl, rfl⟩
  show wpAny _ _ (Builtin.«set.__init__» _) _ _ s1
  unfold Builtin.«set.__init__» noKeywords Builtin.Frozenset.updateFrom
  have hol' : (s.heap.push e0).get? l = some { cls := .type "list", dict := kd, data := .seq items nl, slots := ks } := hol
  generalize hPI : pyIter = PI
  wp_walk
  subst hPI
  refine wpAny_pyIter_list hl1 (wpAny_bind (wpAny_runValue ?_))
  have z1 : s1.heap.objs.size = s.heap.objs.size + 1 := Heap.size_push ..
  have ne1 : l ≠ s1.heap.objs.size := Nat.ne_of_lt (by rw [z1]; exact Nat.lt_succ_of_lt hlt)
  have ne2 : s.heap.objs.size ≠ s1.heap.objs.size := Nat.ne_of_lt (by rw [z1]; exact Nat.lt_succ_self _)
  have nm : s.heap.objs.size ∉ [s1.heap.objs.size, l] := by
    simp only [List.mem_cons, List.not_mem_nil, or_false, not_or]
    exact ⟨ne2, Nat.ne_of_gt hlt⟩
  have hv : ∀ (i : Nat) (v : Value), items[i]? = some v → ∃ k t, ns[i]? = some k ∧ v = .int k t := fun i v e => by
    have hi : i < ns.length := by rw [← hsz]; exact (Array.getElem?_eq_some_iff.mp e).1
    obtain ⟨t, e2⟩ := PyProof.Rows.IntsAre.int_at hit i v (by rw [Array.getElem?_toList]; exact e)
    rw [List.getD_eq_getElem?_getD, List.getElem?_eq_getElem hi] at e2
    exact ⟨ns[i], t, List.getElem?_eq_getElem hi, e2⟩
  refine set_update_ints ((Walks.list (by simp [hh]) _ l ne1 items).toS) s.heap.objs.size nm ns hsz hb hv (items.size - 0) 0 _ (by omega) (Nat.zero_le _) ⟨⟨_, Heap.get?_push_size _ rfl, rfl, rfl⟩, hl1.push _⟩ ⟨0, Nat.le_refl 0, setR_new_at (Heap.get?_push_of_some _ hS)⟩ ?_
  intro s2 c hm hc hR
  obtain ⟨h2, g2, d2, t2, o2⟩ := s2
  have eg : g2 = s.gens := hm.gens
  have ed : d2 = s.drawn := hm.drawn
  have eo : o2 = s.os := hm.os
  subst eg; subst ed; subst eo
  show wpAny _ _ _ _ _ _
  refine wpAny_pure (show wpAny _ _ (ret Value.none) _ _ _ from wpAny_pure ⟨rfl, q h2 t2 c hR (by omega) fun b o e => hm.heap b o ?_ (Heap.get?_push_of_some _ (Heap.get?_push_of_some _ e))⟩)
  have hb0 : b < s.heap.objs.size := Heap.lt_size e
  simp only [List.mem_cons, List.not_mem_nil, or_false, not_or]
  exact ⟨Nat.ne_of_lt hb0, Nat.ne_of_lt (by rw [z1]; exact Nat.lt_succ_of_lt hb0)⟩
end
/-! ### the ints of a list, each once, rising -/
def insS (k : Int) : List Int → List Int
  | [] => [k]
  | x :: xs => if k < x then k :: x :: xs else if k = x then x :: xs else x :: insS k xs
def srtS (ns : List Int) : List Int := ns.foldr insS []
theorem insS_mem {k z : Int} : ∀ {xs : List Int}, z ∈ insS k xs ↔ z = k ∨ z ∈ xs
  | [] => by simp [insS]
  | x :: xs => by
    unfold insS
    split
    · simp
    · split
      · rename_i h; subst h; simp
      · simp only [List.mem_cons, insS_mem (xs := xs)]
        constructor
        · rintro (h | h | h)
          · exact .inr (.inl h)
          · exact .inl h
          · exact .inr (.inr h)
        · rintro (h | h | h)
          · exact .inr (.inl h)
          · exact .inl h
          · exact .inr (.inr h)
theorem insS_lt {k : Int} : ∀ {xs : List Int}, xs.Pairwise (· < ·) → (insS k xs).Pairwise (· < ·)
  | [], _ => by simp [insS]
  | x :: xs, h => by
    obtain ⟨h1, h2⟩ := List.pairwise_cons.mp h
    unfold insS
    split
    · rename_i c
      refine List.pairwise_cons.mpr ⟨fun z hz => ?_, h⟩
      rcases List.mem_cons.mp hz with rfl | hz
      · exact c
      · have := h1 z hz; omega
    · split
      · exact h
      · refine List.pairwise_cons.mpr ⟨fun z hz => ?_, insS_lt h2⟩
        rcases insS_mem.mp hz with rfl | hz
        · omega
        · exact h1 z hz
theorem srtS_mem {z : Int} : ∀ {ns : List Int}, z ∈ srtS ns ↔ z ∈ ns
  | [] => by simp [srtS]
  | n :: ns => by
    show z ∈ insS n (srtS ns) ↔ _
    rw [insS_mem, srtS_mem (ns := ns)]; simp
theorem srtS_lt : ∀ {ns : List Int}, (srtS ns).Pairwise (· < ·)
  | [] => by simp [srtS]
  | n :: ns => insS_lt (srtS_lt (ns := ns))
theorem rise_eq : ∀ {xs ys : List Int}, xs.Pairwise (· < ·) → ys.Pairwise (· < ·) → (∀ z, z ∈ xs ↔ z ∈ ys) → xs = ys
  | [], [], _, _, _ => rfl
  | [], y :: ys, _, _, h => absurd ((h y).mpr (by simp)) (by simp)
  | x :: xs, [], _, _, h => absurd ((h x).mp (by simp)) (by simp)
  | x :: xs, y :: ys, h1, h2, h => by
    obtain ⟨a1, a2⟩ := List.pairwise_cons.mp h1
    obtain ⟨b1, b2⟩ := List.pairwise_cons.mp h2
    have e : x = y := by
      rcases List.mem_cons.mp ((h x).mp (by simp)) with e | e
      · exact e
      · rcases List.mem_cons.mp ((h y).mpr (by simp)) with e' | e'
        · exact e'.symm
        · have := b1 x e; have := a1 y e'; omega
    subst e
    rw [rise_eq a2 b2 fun z => ?_]
    constructor
    · intro hz
      rcases List.mem_cons.mp ((h z).mp (List.mem_cons_of_mem _ hz)) with e | e
      · have := a1 z hz; omega
      · exact e
    · intro hz
      rcases List.mem_cons.mp ((h z).mpr (List.mem_cons_of_mem _ hz)) with e | e
      · have := b1 z hz; omega
      · exact e
section
variable {X : Cx} {W : WX}
def rSetOfI (K : PySem.W.Frag) (w : World) : List V → Hp → VK → Prop := fun xs H Q => ∃ (l : Addr) (ns : List Int), xs = [.ref l] ∧ SqL K H l (ns.map V.int) ∧ ns.length ≤ 60 ∧
  ∀ a c, H a = none → c ≤ ns.length → Q (.ref a) (upd H a (SetO w a (fun j => decide (j ∈ ns)) c))
theorem cr_setOfI (hc : X.calm = true) : CallR X (.type "set") (rSetOfI X.K X.w) := by
  intro pins s σ H xs us Q I r h
  obtain ⟨l, ns, rfl, hl, hz, q⟩ := h
  rw [Vals.ref1 r]
  obtain ⟨its, rv, pl, _⟩ := I.list hl
  refine set_ints (P := X.prog) (w := X.w) ns (I.ok.hd hc) pl.isList (by simpa using rv.ints) (by unfold scanBound; omega) fun h' tk c R hc k => ?_
  exact ⟨.ref s.heap.objs.size, upd H s.heap.objs.size (SetO X.w s.heap.objs.size (fun j => decide (j ∈ ns)) c), I.laid (t' := tk) k (Nat.le_refl _) (setO_new R), rfl, q _ c (I.hok.fresh (Nat.le_refl _)) hc⟩
def mSortSet (m : M D) : M D := fun ρ S => (m ρ S).bind fun d S1 => match intsL S1 d with
  | some ns => if ns.length ≤ 60 then .ok (.lst ((srtS ns).map .int)) S1 else .fail
  | none => .fail
theorem ev_sortSet {a : Expr} {m : M D} {p p2 q pos : Pos} (hc : X.calm = true) (hg : Gl X "sorted") (hm : X.mg "sorted" = none) (hg2 : Gl X "set") (hm2 : X.mg "set" = none) (ha : EvE X W a m) (hs : notStar a = true) :
    EvE X W (.Call (.Name "sorted" p) [.Call (.Name "set" p2) [a] [] q] [] pos) (mSortSet m) := by
  refine EvE.of_pe (pe_callB (cr_sortedSet hc) hg hm (by decide +kernel) (pa_cons (pe_callTy (cr_setOfI hc) hg2 hm2 (by decide +kernel) (pa_cons ha.pe pa_nil (star_of hs)) (by decide) (by decide) (star_of hs) rfl) pa_nil rfl) (by decide) (by decide) rfl rfl) fun σ H μ S ρ R E F => ?_
  unfold mSortSet at F ⊢
  refine tm1 R E F fun d S1 v μ1 H1 e st x R1 E1 F1 => ?_
  split at F1
  · rename_i ns hn
    split at F1
    · rename_i hl
      have hn' := hn
      unfold intsL at hn
      split at hn
      · rename_i ds hd
        obtain ⟨l, vs, rfl, hq, rl⟩ := seqL_ok R1 x hd
        have := intsD_ok hn rl
        subst this
        refine ⟨l, ns, rfl, hq, hl, fun a c ha hcn => ?_⟩
        have st2 := Step.fresh (o := SetO X.w a (fun j => decide (j ∈ ns)) c) R1 ha
        refine ⟨a, _, c, rfl, upd_same, by omega, fun ns' p h1 h2 h3 hp => ?_⟩
        have en : ns' = srtS ns := rise_eq h1 srtS_lt fun z => by rw [h2 z, srtS_mem, decide_eq_true_eq]
        subst en
        refine ⟨.lst ((srtS ns).map .int), S1, μ1, by rw [e, bind_ok, hn']; dsimp only; rw [if_pos hl], (st.trans R (st2.trans R1 (Step.fresh st2.rel hp))), ?_⟩
        exact ((new_lst st2.rel hp (rep_ints _)).back R1 st2).back R st
      · cases hn
    · exact F1.elim
  · exact F1.elim
end
section
variable {ρ : Env'} {S : Store} {a : M D}
theorem x_sortSet : mSortSet a ρ S = (a ρ S).bind fun d S1 => match intsL S1 d with
  | some ns => if ns.length ≤ 60 then .ok (.lst ((srtS ns).map .int)) S1 else .fail
  | none => .fail := rfl
end
end Ev
namespace Ev
open PySem PySem.Spec PyProof.Rows L2
/-! ### min of a tuple of ints -/
def minF (n : Int) (ns : List Int) : Int := ns.foldl (fun a y => if decide (y < a) = true then y else a) n
section
variable {X : Cx} {W : WX}
def rMinT (K : PySem.W.Frag) : List V → Hp → VK → Prop := fun vs H Q => ∃ (a : Addr) (n : Int) (ns : List Int), vs = [V.ref a] ∧ SqT K H a ((n :: ns).map V.int) ∧ Q (.int (minF n ns)) H
theorem cr_minT (hc : X.calm = true) (hu : X.A.units + 1 < cLine) : CallR X (.builtin "min") (rMinT X.K) := by
  intro pins s σ H vs us Q I r h
  obtain ⟨a, n, ns, rfl, hs, q⟩ := h
  obtain ⟨its, rv, hl, _⟩ := I.tuple hs
  rw [Vals.ref1 r]
  refine PySem.W.min_tuple_datum (α := Int) (x := n) (xs := ns) (I.ok.hd hc) hl (PySem.W.HoldAll.of_ints (by simpa using rv.ints)) (by show X.A.units + 1 + 0 < cLine; omega) fun i v h' tk hv hH hk => ?_
  obtain ⟨t, rfl⟩ := PySem.W.int_of_holds hH
  exact ⟨.int _, H, I.kept hk, ⟨t, rfl⟩, q⟩
def mMinT (m : M D) : M D := fun ρ S => (m ρ S).bind fun d S1 => match d with
  | .tup ds => match intsD ds with
    | some (n :: ns) => .ok (.int (minF n ns)) S1
    | _ => .fail
  | _ => .fail
theorem ev_minT {a : Expr} {m : M D} {p pos : Pos} (hc : X.calm = true) (hu : X.A.units + 64 < cLine) (hg : Gl X "min") (hm : X.mg "min" = none) (ha : EvE X W a m) (hs : notStar a = true) :
    EvE X W (.Call (.Name "min" p) [a] [] pos) (mMinT m) := by
  refine EvE.of_pe (pe_callB (cr_minT hc (by omega)) hg hm (by decide +kernel) (pa_cons ha.pe pa_nil (star_of hs)) (by decide) (by decide) (star_of hs) rfl) fun σ H μ S ρ R E F => ?_
  unfold mMinT at F ⊢
  refine tm1 R E F fun d S1 v μ1 H1 e st x R1 E1 F1 => ?_
  split at F1
  · rename_i ds
    split at F1
    · rename_i n ns hn
      obtain ⟨l, vs, rfl, hq, rl⟩ := seqT_ok x rfl
      have := intsD_ok hn rl
      subst this
      exact ⟨l, n, ns, rfl, hq, .int (minF n ns), S1, μ1, by rw [e, bind_ok]; dsimp only; rw [hn], st, res_int⟩
    · exact F1.elim
  · exact F1.elim
end
section
variable {ρ : Env'} {S : Store} {a : M D}
theorem x_minT : mMinT a ρ S = (a ρ S).bind fun d S1 => match d with
  | .tup ds => match intsD ds with
    | some (n :: ns) => .ok (.int (minF n ns)) S1
    | _ => .fail
  | _ => .fail := rfl
end
end Ev
/-! Ev32: set(a) == set(b), lists of ints. -/
namespace Ev
open PySem PySem.Spec PyProof.Rows L2
theorem entry_set_eq : entryFor table "set.__eq__" = some Builtin.«frozenset.__eq__» := entryFor_alias (id' := "frozenset.__eq__") (by kernel_rfl) rfl (by decide +kernel) (by kernel_rfl)
def IsS0 (h : Heap) (a : Addr) (es : Array (Int × Value)) : Prop := ∃ o ep t, h.get? a = some o ∧ o.ExactSet ∧ o.data = .set es ep t ∧ (∀ e ∈ es.toList, GoodE e) ∧ es.size < scanBound ∧ t.fits es.size = true
theorem IsS0.set {P : Program} {w : World} {h : Heap} {a : Addr} {es : Array (Int × Value)} (x : IsS0 h a es) : h.SetOf (intKind P w) a (fun k => decide (k ∈ es.toList.map keyOf)) es.size := by
  obtain ⟨o, ep, t, ho, hx, hd, g, hb, hf⟩ := x
  exact ⟨o, es, ep, t, ho, hx, hd, good_elems g, fun k => by rw [decide_eq_true_eq]; exact good_mem g k, hb, hf, rfl⟩
section
variable {P : Program} {w : World} {A : Around} {E : Value → Shared → Prop} {s : Shared}
theorem entries_ok {a : Addr} {es : Array (Int × Value)} {Q : Array (Int × Value) → Shared → Prop} (x : IsS0 s.heap a es) (q : Q es s) : wpAny (model P w) A (setEntries a) Q E s := by
  obtain ⟨o, ep, t, ho, hx, hd, g, hb, hf⟩ := x
  exact wpAny_setEntries_of ho hd hf q
theorem epoch_ok {a : Addr} {es : Array (Int × Value)} (x : IsS0 s.heap a es) : ∃ n, ∀ Q : Nat → Shared → Prop, Q n s → wpAny (model P w) A (setEpoch a) Q E s := by
  obtain ⟨o, ep, t, ho, hx, hd, g, hb, hf⟩ := x
  refine ⟨ep, fun Q q => ?_⟩
  unfold setEpoch
  exact wpAny_bind (wpAny_setState_of ho hd hf (wpAny_pure q))
theorem quiet_good {e : Int × Value} (h : GoodE e) : Builtin.Frozenset.quietEq e.2 = pure true := by
  obtain ⟨k, tk, h1, _⟩ := h
  rw [h1]; rfl
theorem subset_ok {a b : Addr} {ea eb : Array (Int × Value)} {id : String} {Q : Bool → Shared → Prop} (ha : IsS0 s.heap a ea) (hb : IsS0 s.heap b eb) (hle : ea.size ≤ eb.size) (q : Q (ea.toList.all fun e => decide (keyOf e ∈ eb.toList.map keyOf)) s) :
    wpAny (model P w) A (Builtin.Frozenset.subsetOf id a b) Q E s := by
  obtain ⟨n, hn⟩ := epoch_ok (P := P) (w := w) (A := A) (E := E) ha
  have ga : ∀ e ∈ ea.toList, GoodE e := let ⟨_, _, _, _, _, _, g, _⟩ := ha; g
  have gb : ∀ e ∈ eb.toList, GoodE e := let ⟨_, _, _, _, _, _, g, _⟩ := hb; g
  unfold Builtin.Frozenset.subsetOf Builtin.Frozenset.sizeOf
  refine wpAny_bind (wpAny_bind (entries_ok ha (wpAny_pure ?_)))
  refine wpAny_bind (wpAny_bind (entries_ok hb (wpAny_pure ?_)))
  rw [if_neg (by omega)]
  refine wpAny_bind (hn _ ?_)
  refine wpAny_bind (m := Builtin.Frozenset.walkUnseen a b) ?_
  unfold Builtin.Frozenset.walkUnseen
  refine wpAny_bind (entries_ok ha ?_)
  refine wpAny_bind (entries_ok hb ?_)
  refine wpAny_bind (wpAny_mono (wpAny_forIn_list _ (fun l b s' => (∀ e ∈ l, GoodE e) ∧ b = (none, ()) ∧ s' = s) (fun b s' => b = (none, ()) ∧ s' = s) ?_ ?_ _ _ ⟨fun e he => (List.mem_append.mp he).elim (ga e) (gb e), rfl, rfl⟩) (fun r s' h => ?_) fun _ _ x => x)
  · rintro ⟨h0, x⟩ rest b s' ⟨hg, rfl, rfl⟩
    have e1 : Builtin.Frozenset.quietEq x = pure true := quiet_good (hg (h0, x) (.head _))
    dsimp only
    rw [e1]
    exact wpAny_bind (wpAny_pure (wpAny_pure ⟨fun e he => hg e (.tail _ he), rfl, rfl⟩))
  · rintro b s' ⟨_, rfl, rfl⟩
    exact ⟨rfl, rfl⟩
  obtain ⟨rfl, rfl⟩ := h
  refine wpAny_pure ?_
  refine wpAny_bind (wpAny_mono (wpAny_forIn_list _ (fun l b s2 => b = (none, ()) ∧ s2 = s' ∧ (∀ e ∈ l, GoodE e) ∧ (ea.toList.all fun e => decide (keyOf e ∈ eb.toList.map keyOf)) = (l.all fun e => decide (keyOf e ∈ eb.toList.map keyOf)))
    (fun b s2 => s2 = s' ∧ ((b = (none, ()) ∧ (ea.toList.all fun e => decide (keyOf e ∈ eb.toList.map keyOf)) = true) ∨ (b = (some false, ()) ∧ (ea.toList.all fun e => decide (keyOf e ∈ eb.toList.map keyOf)) = false))) ?_ ?_ _ _ ⟨rfl, rfl, ga, rfl⟩) (fun r s2 h => ?_) fun _ _ x => x)
  · rintro ⟨h0, x⟩ rest c s2 ⟨rfl, rfl, hg, he⟩
    obtain ⟨k, tk, h1, h2⟩ := hg (h0, x) (.head _)
    have h1 : x = .int k tk := h1
    have h2 : h0 = hashInt k := h2
    subst h1
    subst h2
    dsimp only
    have hk : keyOf (hashInt k, Value.int k tk) = k := rfl
    rw [List.all_cons, hk] at he
    refine wpAny_bind (wpAny_holding (wpAny_setFind_of (knd := intKind P w) (k := k) (intKind_is P w k tk) rfl hb.set fun r hr => ?_))
    by_cases hm : k ∈ eb.toList.map keyOf
    · rw [decide_eq_true hm] at hr he
      cases r with
      | none => cases hr
      | some i =>
        rw [Bool.true_and] at he
        show wpAny _ _ (Builtin.Frozenset.unchanged id a n >>= fun _ => pure (ForInStep.yield (none, ()))) _ _ _
        unfold Builtin.Frozenset.unchanged
        refine wpAny_bind (wpAny_bind (hn _ ?_))
        rw [if_neg (by simp)]
        exact wpAny_pure (wpAny_pure ⟨rfl, rfl, fun e he => hg e (.tail _ he), he⟩)
    · rw [decide_eq_false hm] at hr he
      cases r with
      | some i => cases hr
      | none =>
        rw [Bool.false_and] at he
        exact wpAny_pure ⟨rfl, .inr ⟨rfl, he⟩⟩
  · rintro b s2 ⟨rfl, rfl, _, he⟩
    exact ⟨rfl, .inl ⟨rfl, by rw [he]; rfl⟩⟩
  · obtain ⟨rfl, ⟨rfl, he⟩ | ⟨rfl, he⟩⟩ := h
    · rw [he] at q
      exact wpAny_pure q
    · rw [he] at q
      exact wpAny_pure q
end
end Ev
/-! Ev33: set(a) == set(b). -/
namespace Ev
open PySem PySem.Spec PyProof.Rows L2
theorem set_eq_meets (a b : Addr) (ea eb : Array (Int × Value)) : Meets (Builtin.«frozenset.__eq__» ⟨[.ref a, .ref b], []⟩) (fun A R s => IsS0 s.heap a ea ∧ IsS0 s.heap b eb ∧
    R (.ok (.ret (.bool (decide (ea.size = eb.size) && ea.toList.all fun e => decide (keyOf e ∈ eb.toList.map keyOf))))) s) :=
  .of_wp fun prog w A R s h => by
    obtain ⟨ha, hb, q⟩ := h
    have hTa : s.TypeIs (.ref a) "set" := (ha.set (P := prog) (w := w)).typeIs
    have hTb : s.TypeIs (.ref b) "set" := (hb.set (P := prog) (w := w)).typeIs
    unfold Builtin.«frozenset.__eq__»
    wp_delta
    refine wpAny_bind (m := Builtin.Frozenset.slot1 "__eq__" _) (wpAny_pure ?_)
    dsimp only
    unfold Builtin.Frozenset.isAnySet
    refine wpAny_bind (wpAny_bind (wpAny_isInstance hTb sub_set_self ?_))
    refine wpAny_pure ?_
    rw [if_neg (by simp)]
    unfold Builtin.Frozenset.addrOf Builtin.Frozenset.sizeOf
    refine wpAny_bind (wpAny_pure ?_)
    refine wpAny_bind (wpAny_pure ?_)
    refine wpAny_bind (wpAny_bind (entries_ok ha (wpAny_pure ?_)))
    refine wpAny_bind (wpAny_bind (entries_ok hb (wpAny_pure ?_)))
    by_cases hne : ea.size = eb.size
    · rw [decide_eq_true hne, Bool.true_and] at q
      rw [if_neg (by simp [hne])]
      refine wpAny_bind (wpAny_bind (wpAny_bind (wpAny_isInstance hTa F.sub_set_frozenset ?_)))
      refine wpAny_pure ?_
      rw [if_neg (by simp)]
      exact subset_ok ha hb (by omega) (wpAny_pure ⟨_, rfl, q⟩)
    · rw [decide_eq_false hne, Bool.false_and] at q
      rw [if_pos (by simpa using hne)]
      exact wpAny_bind (wpAny_pure (wpAny_pure ⟨_, rfl, q⟩))
theorem rise_sub : ∀ {A B : List Int}, A.Pairwise (· < ·) → B.Pairwise (· < ·) → (∀ z ∈ A, z ∈ B) → A.Sublist B
  | [], B, _, _, _ => List.nil_sublist B
  | a :: as, [], _, _, h => absurd (h a (by simp)) (by simp)
  | a :: as, b :: bs, hA, hB, h => by
    obtain ⟨a1, a2⟩ := List.pairwise_cons.mp hA
    obtain ⟨b1, b2⟩ := List.pairwise_cons.mp hB
    by_cases e : a = b
    · subst e
      refine List.Sublist.cons₂ _ (rise_sub a2 b2 fun z hz => ?_)
      rcases List.mem_cons.mp (h z (List.mem_cons_of_mem _ hz)) with e | e
      · have := a1 z hz; omega
      · exact e
    · have hab : a ∈ bs := (List.mem_cons.mp (h a (by simp))).resolve_left e
      have := b1 a hab
      refine List.Sublist.cons _ (rise_sub hA b2 fun z hz => ?_)
      rcases List.mem_cons.mp (h z hz) with e2 | e2
      · rcases List.mem_cons.mp hz with e3 | e3
        · omega
        · have := a1 z e3; omega
      · exact e2
theorem nodup_lt {xs : List Int} (h : xs.Pairwise (· < ·)) : xs.Nodup := (List.nodup_iff_pairwise_ne.mpr (h.imp fun {a b} hab e => by omega))
section
variable {X : Cx} {W : WX}
def rSEq (w : World) : V → V → Hp → VK → Prop := fun x y H Q => ∃ (a b : Addr) (xs ys : List Int) (n m : Nat), x = .ref a ∧ y = .ref b ∧ H a = some (SetO w a (fun j => decide (j ∈ xs)) n) ∧ H b = some (SetO w b (fun j => decide (j ∈ ys)) m) ∧ Q (.bl (decide (srtS xs = srtS ys))) H
theorem or_seteq (hu : X.A.units + 64 < cLine) : OpR X (compareOp .Eq) (rSEq X.w) := by
  intro pins s σ H x y v u Q I rx ry h
  obtain ⟨a, b, xs, ys, n, m, rfl, rfl, ha, hb, q⟩ := h
  cases rx
  cases ry
  obtain ⟨oa, ea, pa, ta, a1, a2, a3, a4, a5, a6, a7, a8, _⟩ := setO_get I ha
  obtain ⟨ob, eb, pb, tb, b1, b2, b3, b4, b5, b6, b7, b8, _⟩ := setO_get I hb
  have ia : IsS0 s.heap a ea := ⟨oa, pa, ta, a1, a2, a3, a4, a7, a8⟩
  have ib : IsS0 s.heap b eb := ⟨ob, pb, tb, b1, b2, b3, b4, b7, b8⟩
  have key : ∀ {zs : List Int} {es : Array (Int × Value)}, (es.toList.map keyOf).Nodup → (∀ k, decide (k ∈ zs) = true ↔ k ∈ es.toList.map keyOf) → es.size = (srtS zs).length ∧ ∀ k, k ∈ es.toList.map keyOf ↔ k ∈ srtS zs := fun {zs es} nd hm => by
    have hmem : ∀ k, k ∈ es.toList.map keyOf ↔ k ∈ srtS zs := fun k => by rw [← hm k, decide_eq_true_eq, srtS_mem]
    have hp := (List.perm_ext_iff_of_nodup nd (nodup_lt srtS_lt)).mpr hmem
    have := hp.length_eq
    rw [List.length_map, Array.length_toList] at this
    exact ⟨this, hmem⟩
  obtain ⟨la, ma⟩ := key a5 a6
  obtain ⟨lb, mb⟩ := key b5 b6
  have e : (decide (ea.size = eb.size) && ea.toList.all fun e => decide (keyOf e ∈ eb.toList.map keyOf)) = decide (srtS xs = srtS ys) := by
    rw [Bool.eq_iff_iff, Bool.and_eq_true, decide_eq_true_eq, decide_eq_true_eq, List.all_eq_true]
    constructor
    · rintro ⟨h1, h2⟩
      refine (rise_sub srtS_lt srtS_lt fun z hz => ?_).eq_of_length (by omega)
      obtain ⟨e, he, rfl⟩ := List.mem_map.mp ((ma z).mpr hz)
      exact (mb _).mp (of_decide_eq_true (h2 e he))
    · intro h
      refine ⟨by rw [la, lb, h], fun e he => decide_eq_true ?_⟩
      rw [mb, ← h, ← ma]
      exact List.mem_map_of_mem he
  have hTa : s.TypeIs (.ref a) "set" := ⟨oa, a1, a2.1⟩
  have hTb : s.TypeIs (.ref b) "set" := ⟨ob, b1, b2.1⟩
  refine richCompare_meets_room (op := .Eq) hTa hTb F.slot_set_eq entry_set_eq (F.args_set_eq_2 _ _) (set_eq_meets a b ea eb) ⟨ia, ib, ?_⟩ (by omega)
  show Value.bool _ ≠ Value.notImplemented ∧ _
  refine ⟨(fun x => nomatch x), ?_⟩
  rw [e]
  exact ⟨.bl _, H, I, rfl, q⟩
def mSetEq (ma mb : M D) : M D := fun ρ S => (ma ρ S).bind fun d S1 => match intsL S1 d with
  | some xs => if xs.length ≤ 60 then (mb ρ S1).bind fun e S2 => match intsL S2 e with
    | some ys => if ys.length ≤ 60 then .ok (.bl (decide (srtS xs = srtS ys))) S2 else .fail
    | none => .fail
    else .fail
  | none => .fail
theorem ev_setEq {a b : Expr} {ma mb : M D} {p p1 q q1 pos : Pos} (hc : X.calm = true) (hu : X.A.units + 64 < cLine) (hg2 : Gl X "set") (hm2 : X.mg "set" = none) (ha : EvE X W a ma) (hb : EvE X W b mb) (hs : notStar a = true) (hs2 : notStar b = true) :
    EvE X W (.Compare (.Call (.Name "set" p) [a] [] q) [.Eq] [.Call (.Name "set" p1) [b] [] q1] pos) (mSetEq ma mb) := by
  refine EvE.of_pe (pe_cmpR (op := .Eq) (or_seteq hu) (pe_callTy (cr_setOfI hc) hg2 hm2 (by decide +kernel) (pa_cons ha.pe pa_nil (star_of hs)) (by decide) (by decide) (star_of hs) rfl) (pe_callTy (cr_setOfI hc) hg2 hm2 (by decide +kernel) (pa_cons hb.pe pa_nil (star_of hs2)) (by decide) (by decide) (star_of hs2) rfl) rfl) fun σ H μ S ρ R E F => ?_
  unfold mSetEq at F ⊢
  refine tm1 R E F fun d S1 v μ1 H1 e st x R1 E1 F1 => ?_
  split at F1
  · rename_i xs hn
    split at F1
    · rename_i hl
      have hn' := hn
      unfold intsL at hn
      split at hn
      · rename_i ds hd
        obtain ⟨l, vs, rfl, hq, rl⟩ := seqL_ok R1 x hd
        have := intsD_ok hn rl
        subst this
        refine ⟨l, xs, rfl, hq, hl, fun a0 c h0 hcn => ?_⟩
        have st2 := Step.fresh (o := SetO X.w a0 (fun j => decide (j ∈ xs)) c) R1 h0
        have R2 := st2.rel
        refine tm1 R2 (E1.step R1 st2) (F1.back R1 st2) fun d2 S3 v2 μ3 H3 e3 st3 x3 R3 E3 F3 => ?_
        split at F3
        · rename_i ys hn2
          split at F3
          · rename_i hl2
            have hn2' := hn2
            unfold intsL at hn2
            split at hn2
            · rename_i ds2 hd2
              obtain ⟨l2, vs2, rfl, hq2, rl2⟩ := seqL_ok R3 x3 hd2
              have := intsD_ok hn2 rl2
              subst this
              refine ⟨l2, ys, rfl, hq2, hl2, fun b0 c2 h2 hcn2 => ?_⟩
              have hk : H3 a0 = some (SetO X.w a0 (fun j => decide (j ∈ xs)) c) := by
                obtain ⟨_, _, _, kp, _⟩ := id st3
                exact kp a0 _ upd_same (R1.nin h0)
              have hne : a0 ≠ b0 := fun z => by rw [← z, hk] at h2; cases h2
              refine ⟨a0, b0, xs, ys, c, c2, rfl, rfl, by rw [upd_ne hne]; exact hk, upd_same, .bl _, S3, μ3, ?_, st.trans R (st2.trans R1 (st3.trans R2 (Step.fresh R3 h2))), res_bl⟩
              rw [e, bind_ok, hn']
              dsimp only
              rw [if_pos hl, e3, bind_ok, hn2']
              dsimp only
              rw [if_pos hl2]
            · cases hn2
          · exact F3.elim
        · exact F3.elim
      · cases hn
    · exact F1.elim
  · exact F1.elim
end
section
variable {ρ : Env'} {S : Store} {ma mb : M D}
theorem x_setEq : mSetEq ma mb ρ S = (ma ρ S).bind fun d S1 => match intsL S1 d with
  | some xs => if xs.length ≤ 60 then (mb ρ S1).bind fun e S2 => match intsL S2 e with
    | some ys => if ys.length ≤ 60 then .ok (.bl (decide (srtS xs = srtS ys))) S2 else .fail
    | none => .fail
    else .fail
  | none => .fail := rfl
end
end Ev
/-! Ev34: numbers, cuts. -/
namespace Ev
open PySem PySem.Spec PyProof.Rows L2
theorem md_3 : ((0 : Int) < 3) = True := eq_true (by decide)
theorem md_4 : ((0 : Int) < 4) = True := eq_true (by decide)
theorem md_6 : ((0 : Int) < 6) = True := eq_true (by decide)
theorem md_7 : ((0 : Int) < 7) = True := eq_true (by decide)
theorem md_9 : ((0 : Int) < 9) = True := eq_true (by decide)
theorem md_10 : ((0 : Int) < 10) = True := eq_true (by decide)
theorem md_11 : ((0 : Int) < 11) = True := eq_true (by decide)
theorem md_19 : ((0 : Int) < 19) = True := eq_true (by decide)
theorem md_22 : ((0 : Int) < 22) = True := eq_true (by decide)
theorem md_23 : ((0 : Int) < 23) = True := eq_true (by decide)
theorem md_36 : ((0 : Int) < 36) = True := eq_true (by decide)
theorem md_100 : ((0 : Int) < 100) = True := eq_true (by decide)
theorem md_1009 : ((0 : Int) < 1009) = True := eq_true (by decide)
theorem dv_3 : ((0 : Int) < 3 ∧ (3 : Int).natAbs.log2 < 9000) = True := eq_true (by decide)
theorem dv_4 : ((0 : Int) < 4 ∧ (4 : Int).natAbs.log2 < 9000) = True := eq_true (by decide)
theorem dv_5 : ((0 : Int) < 5 ∧ (5 : Int).natAbs.log2 < 9000) = True := eq_true (by decide)
theorem dv_6 : ((0 : Int) < 6 ∧ (6 : Int).natAbs.log2 < 9000) = True := eq_true (by decide)
theorem dv_7 : ((0 : Int) < 7 ∧ (7 : Int).natAbs.log2 < 9000) = True := eq_true (by decide)
theorem dv_9 : ((0 : Int) < 9 ∧ (9 : Int).natAbs.log2 < 9000) = True := eq_true (by decide)
theorem dv_10 : ((0 : Int) < 10 ∧ (10 : Int).natAbs.log2 < 9000) = True := eq_true (by decide)
theorem dv_16 : ((0 : Int) < 16 ∧ (16 : Int).natAbs.log2 < 9000) = True := eq_true (by decide)
theorem dv_18 : ((0 : Int) < 18 ∧ (18 : Int).natAbs.log2 < 9000) = True := eq_true (by decide)
theorem dv_22 : ((0 : Int) < 22 ∧ (22 : Int).natAbs.log2 < 9000) = True := eq_true (by decide)
theorem dv_30 : ((0 : Int) < 30 ∧ (30 : Int).natAbs.log2 < 9000) = True := eq_true (by decide)
theorem dv_36 : ((0 : Int) < 36 ∧ (36 : Int).natAbs.log2 < 9000) = True := eq_true (by decide)
theorem dv_60 : ((0 : Int) < 60 ∧ (60 : Int).natAbs.log2 < 9000) = True := eq_true (by decide)
theorem dv_64 : ((0 : Int) < 64 ∧ (64 : Int).natAbs.log2 < 9000) = True := eq_true (by decide)
theorem dv_66 : ((0 : Int) < 66 ∧ (66 : Int).natAbs.log2 < 9000) = True := eq_true (by decide)
theorem dv_90 : ((0 : Int) < 90 ∧ (90 : Int).natAbs.log2 < 9000) = True := eq_true (by decide)
theorem dv_198 : ((0 : Int) < 198 ∧ (198 : Int).natAbs.log2 < 9000) = True := eq_true (by decide)
theorem dv_396 : ((0 : Int) < 396 ∧ (396 : Int).natAbs.log2 < 9000) = True := eq_true (by decide)
theorem dv_594 : ((0 : Int) < 594 ∧ (594 : Int).natAbs.log2 < 9000) = True := eq_true (by decide)
theorem dv_613 : ((0 : Int) < 613 ∧ (613 : Int).natAbs.log2 < 9000) = True := eq_true (by decide)
theorem dv_1009 : ((0 : Int) < 1009 ∧ (1009 : Int).natAbs.log2 < 9000) = True := eq_true (by decide)
theorem dv_1782 : ((0 : Int) < 1782 ∧ (1782 : Int).natAbs.log2 < 9000) = True := eq_true (by decide)
theorem dv_4096 : ((0 : Int) < 4096 ∧ (4096 : Int).natAbs.log2 < 9000) = True := eq_true (by decide)
theorem dv_12078 : ((0 : Int) < 12078 ∧ (12078 : Int).natAbs.log2 < 9000) = True := eq_true (by decide)
theorem dv_24156 : ((0 : Int) < 24156 ∧ (24156 : Int).natAbs.log2 < 9000) = True := eq_true (by decide)
theorem dv_256 : ((0 : Int) < 256 ∧ (256 : Int).natAbs.log2 < 9000) = True := eq_true (by decide)
theorem lg_2 : ((2 : Int).natAbs.log2 < 9000) = True := eq_true (by decide)
theorem lg_3 : ((3 : Int).natAbs.log2 < 9000) = True := eq_true (by decide)
theorem lg_4 : ((4 : Int).natAbs.log2 < 9000) = True := eq_true (by decide)
theorem lg_5 : ((5 : Int).natAbs.log2 < 9000) = True := eq_true (by decide)
theorem lg_6 : ((6 : Int).natAbs.log2 < 9000) = True := eq_true (by decide)
theorem lg_7 : ((7 : Int).natAbs.log2 < 9000) = True := eq_true (by decide)
theorem lg_9 : ((9 : Int).natAbs.log2 < 9000) = True := eq_true (by decide)
theorem lg_10 : ((10 : Int).natAbs.log2 < 9000) = True := eq_true (by decide)
theorem lg_16 : ((16 : Int).natAbs.log2 < 9000) = True := eq_true (by decide)
theorem lg_18 : ((18 : Int).natAbs.log2 < 9000) = True := eq_true (by decide)
theorem lg_22 : ((22 : Int).natAbs.log2 < 9000) = True := eq_true (by decide)
theorem lg_30 : ((30 : Int).natAbs.log2 < 9000) = True := eq_true (by decide)
theorem lg_36 : ((36 : Int).natAbs.log2 < 9000) = True := eq_true (by decide)
theorem lg_60 : ((60 : Int).natAbs.log2 < 9000) = True := eq_true (by decide)
theorem lg_64 : ((64 : Int).natAbs.log2 < 9000) = True := eq_true (by decide)
theorem lg_66 : ((66 : Int).natAbs.log2 < 9000) = True := eq_true (by decide)
theorem lg_90 : ((90 : Int).natAbs.log2 < 9000) = True := eq_true (by decide)
theorem lg_198 : ((198 : Int).natAbs.log2 < 9000) = True := eq_true (by decide)
theorem lg_396 : ((396 : Int).natAbs.log2 < 9000) = True := eq_true (by decide)
theorem lg_594 : ((594 : Int).natAbs.log2 < 9000) = True := eq_true (by decide)
theorem lg_613 : ((613 : Int).natAbs.log2 < 9000) = True := eq_true (by decide)
theorem lg_1009 : ((1009 : Int).natAbs.log2 < 9000) = True := eq_true (by decide)
theorem lg_1782 : ((1782 : Int).natAbs.log2 < 9000) = True := eq_true (by decide)
theorem lg_4096 : ((4096 : Int).natAbs.log2 < 9000) = True := eq_true (by decide)
theorem lg_12078 : ((12078 : Int).natAbs.log2 < 9000) = True := eq_true (by decide)
theorem lg_24156 : ((24156 : Int).natAbs.log2 < 9000) = True := eq_true (by decide)
theorem lg_256 : ((256 : Int).natAbs.log2 < 9000) = True := eq_true (by decide)
theorem md_5 : ((0 : Int) < 5) = True := eq_true (by decide)
theorem md_16 : ((0 : Int) < 16) = True := eq_true (by decide)
theorem md_18 : ((0 : Int) < 18) = True := eq_true (by decide)
theorem md_30 : ((0 : Int) < 30) = True := eq_true (by decide)
theorem md_60 : ((0 : Int) < 60) = True := eq_true (by decide)
theorem md_64 : ((0 : Int) < 64) = True := eq_true (by decide)
theorem md_66 : ((0 : Int) < 66) = True := eq_true (by decide)
theorem md_90 : ((0 : Int) < 90) = True := eq_true (by decide)
theorem md_198 : ((0 : Int) < 198) = True := eq_true (by decide)
theorem md_396 : ((0 : Int) < 396) = True := eq_true (by decide)
theorem md_594 : ((0 : Int) < 594) = True := eq_true (by decide)
theorem md_613 : ((0 : Int) < 613) = True := eq_true (by decide)
theorem md_1782 : ((0 : Int) < 1782) = True := eq_true (by decide)
theorem md_4096 : ((0 : Int) < 4096) = True := eq_true (by decide)
theorem md_12078 : ((0 : Int) < 12078) = True := eq_true (by decide)
theorem md_24156 : ((0 : Int) < 24156) = True := eq_true (by decide)
theorem md_256 : ((0 : Int) < 256) = True := eq_true (by decide)
theorem cutL_both {α : Type} {xs : List α} {a b : Nat} (h : a ≤ b) (hb : b ≤ xs.length) : cutL xs (some (a : Int)) (some (b : Int)) = (xs.drop a).take (b - a) := by
  unfold cutL
  rw [HT.sIx_nat, HT.sIx_nat, Nat.min_eq_left (Nat.le_trans h hb), Nat.min_eq_left hb]
theorem mul_smallI {a b : Int} {S : Store} (h0 : 0 ≤ a) (h1 : a < 2 ^ 100) (h2 : 0 ≤ b) (h3 : b < 2 ^ 100) : binD .Mult (.int a) (.int b) S = some (.int (a * b)) :=
  bin_mul (by have := small_log h0 h1; have := small_log h2 h3; omega)
end Ev
/-! Ev35: pure comprehensions, == of coded lists. -/
namespace Ev
open PySem PySem.Spec PyProof.Rows L2
/-- a comprehension that leaves the store as it is -/
theorem comp_ex {b : Bind} {me : M D} {g : Guard} {ρ0 : Env'} {items : List D} {S : Store} {Q : List D → Store → Prop} {E : XP} (P : Nat → D → Prop) (hg : gOk g S)
    (step : ∀ (i : Nat) (d : D), items[i]? = some d → ∃ ρ1, b d ρ0 = some ρ1 ∧ (me ρ1 S).wp (fun e S2 => P i (box e S2).1 ∧ (box e S2).2 = S) E)
    (done : ∀ es, es.length = items.length → (∀ i e, es[i]? = some e → P i e) → Q es S) : (compL b (mEndT true) me g ρ0 items S).wp Q E := by
  refine comp_wp (fun i es S' => S' = S ∧ es.length = i ∧ ∀ j e, es[j]? = some e → P j e) ⟨rfl, rfl, fun j e h => by simp at h⟩ (fun i es S' h => by rw [h.1]; exact hg) ?_ ?_
  · rintro i d es S' hi ⟨rfl, hl, hp⟩
    obtain ⟨ρ1, e1, h1⟩ := step i d hi
    refine ⟨ρ1, e1, ?_⟩
    rw [x_endT, wp_ok, if_pos rfl]
    refine h1.imp (fun e S2 z => ⟨z.2, by rw [List.length_append, hl]; rfl, fun j e' hj => ?_⟩) fun _ _ _ _ z => z
    rcases Nat.lt_or_ge j es.length with h | h
    · rw [List.getElem?_append_left h] at hj; exact hp j e' hj
    · rw [List.getElem?_append_right h] at hj
      cases q : j - es.length with
      | zero =>
        rw [q] at hj
        cases (show (box e S2).1 = e' from by simpa using hj)
        have : j = i := by omega
        rw [this]; exact z.1
      | succ n => rw [q] at hj; simp at hj
  · rintro es S' ⟨rfl, hl, hp⟩
    exact done es hl hp
/-- .. with what it comes to -/
theorem comp_fn {b : Bind} {me : M D} {g : Guard} {ρ0 : Env'} {items : List D} {S : Store} {Q : List D → Store → Prop} {E : XP} (es : List D) (hl : es.length = items.length) (hg : gOk g S)
    (step : ∀ (i : Nat) (d e : D), items[i]? = some d → es[i]? = some e → ∃ ρ1, b d ρ0 = some ρ1 ∧ (me ρ1 S).wp (fun e' S2 => box e' S2 = (e, S)) E)
    (done : Q es S) : (compL b (mEndT true) me g ρ0 items S).wp Q E := by
  refine comp_ex (fun i e => es[i]? = some e) hg (fun i d hi => ?_) fun fs h1 h2 => ?_
  · have hlt : i < es.length := by rw [hl]; exact (List.getElem?_eq_some_iff.mp hi).1
    obtain ⟨ρ1, e1, h⟩ := step i d _ hi (List.getElem?_eq_getElem hlt)
    exact ⟨ρ1, e1, h.imp (fun e' S2 z => by rw [z]; exact ⟨List.getElem?_eq_getElem hlt, rfl⟩) fun _ _ _ _ z => z⟩
  · have : fs = es := List.ext_getElem? fun i => by
      rcases Nat.lt_or_ge i fs.length with h | h
      · rw [h2 i fs[i] (List.getElem?_eq_getElem h), List.getElem?_eq_getElem h]
      · rw [List.getElem?_eq_none h, List.getElem?_eq_none (by omega)]
    rw [this]; exact done
theorem ints_of {es : List D} {p : Int → Prop} (h : ∀ (i : Nat) (e : D), es[i]? = some e → ∃ z : Int, e = .int z ∧ p z) : ∃ zs : List Int, es = zs.map D.int ∧ ∀ z ∈ zs, p z := by
  induction es with
  | nil => exact ⟨[], rfl, fun _ h => nomatch h⟩
  | cons e es ih =>
    obtain ⟨z, rfl, hz⟩ := h 0 e rfl
    obtain ⟨zs, rfl, hzs⟩ := ih fun i e hi => h (i + 1) e (by simpa using hi)
    refine ⟨z :: zs, rfl, fun w hw => ?_⟩
    rcases List.mem_cons.mp hw with rfl | hw
    · exact hz
    · exact hzs w hw
theorem of_get {α : Type} {es : List α} {p : α → Prop} (h : ∀ (i : Nat) (e : α), es[i]? = some e → p e) : ∀ e ∈ es, p e := fun e he => by
  obtain ⟨i, hi, rfl⟩ := List.mem_iff_getElem.mp he
  exact h i _ (List.getElem?_eq_getElem hi)
theorem boolsD_map : ∀ bs : List Bool, boolsD (bs.map D.bl) = some bs
  | [] => rfl
  | b :: bs => by
    rw [List.map_cons]
    unfold boolsD
    rw [boolsD_map bs]
theorem sum_lst {ns : List Int} {S : Store} : bltD .sum [.lst (ns.map D.int)] S = some (.int ns.sum) := by
  have : intsL S (.lst (ns.map D.int)) = some ns := by unfold intsL; rw [seqL_lst]; exact intsD_map ns
  show sumD (.lst (ns.map D.int)) S = _
  unfold sumD
  rw [this]
theorem sorted_lst {ns : List Int} {S : Store} : bltD .sorted [.lst (ns.map D.int)] S = some (.lst ((sortI ns).map D.int)) := by
  have : intsL S (.lst (ns.map D.int)) = some ns := by unfold intsL; rw [seqL_lst]; exact intsD_map ns
  show sortedD (.lst (ns.map D.int)) S = _
  unfold sortedD
  dsimp only
  rw [this]
theorem blt_intb {b : Bool} {S : Store} : bltD .int [.bl b] S = some (.int (if b then 1 else 0)) := rfl
theorem blt_min2 {i j : Int} {S : Store} : bltD .min [.int i, .int j] S = some (.int (if j < i then j else i)) := rfl
theorem blt_max2 {i j : Int} {S : Store} : bltD .max [.int i, .int j] S = some (.int (if j > i then j else i)) := rfl
theorem all_lst {bs : List Bool} {S : Store} : bltD .all [.lst (bs.map D.bl)] S = some (.bl (bs.all id)) := by
  have : boolsL S (.lst (bs.map D.bl)) = some bs := by unfold boolsL; rw [seqL_lst]; exact boolsD_map bs
  show allD (.lst (bs.map D.bl)) S = _
  unfold allD
  rw [this]
theorem cnt_ints {ns : List Int} {k : Int} : cntD (some (ns.map D.int)) (.int k) = some (.int (ns.count k : Nat)) := by
  unfold cntD
  dsimp only
  rw [intsD_map]
/-- pop(0) of a list -/
theorem pop0_wp {i : Nat} {n : Nat} {ρ : Env'} {S : Store} {d : D} {ds : List D} {Q : D → Store → Prop} {E : XP} (hv : ρ[i]? = some (some (.ref n))) (h : S[n]? = some (.lst (d :: ds))) (q : Q d (S.set n (.lst ds))) : (mPopAt (mVar i) (mLit (.int 0)) ρ S).wp Q E := by
  rw [x_popAt, x_var, hv]
  dsimp only
  rw [bind_ok]
  dsimp only
  rw [if_pos (isLst_T h), x_lit, bind_ok]
  dsimp only
  rw [h]
  dsimp only
  rw [if_pos (show In63 0 from ⟨by decide, by decide⟩)]
  have : seqIndex? 0 (d :: ds).length = some 0 := by unfold seqIndex?; simp
  rw [this]
  exact q
theorem toPL_map : ∀ ds : List D, toPL ds = ds.map toP
  | [] => by unfold toPL; rfl
  | d :: ds => by unfold toPL; rw [toPL_map ds]; rfl
theorem eqvAll_map {α : Type} {f : α → PyData} (h : ∀ x y, PyData.eqv (f x) (f y) = true ↔ x = y) : ∀ xs ys : List α, PyData.eqvAll (xs.map f) (ys.map f) = true ↔ xs = ys
  | [], [] => by simp [PyData.eqvAll]
  | [], _ :: _ => by simp [PyData.eqvAll]
  | _ :: _, [] => by simp [PyData.eqvAll]
  | x :: xs, y :: ys => by
    rw [List.map_cons, List.map_cons]
    unfold PyData.eqvAll
    rw [Bool.and_eq_true, h x y, eqvAll_map h xs ys, List.cons.injEq]
theorem eqv_lists {xs ys : List PyData} : PyData.eqv (.list xs) (.list ys) = PyData.eqvAll xs ys := by unfold PyData.eqv; rfl
theorem eqv_tuples {xs ys : List PyData} : PyData.eqv (.tuple xs) (.tuple ys) = PyData.eqvAll xs ys := by unfold PyData.eqv; rfl
theorem eqv_ints {a b : Int} : PyData.eqv (.int a) (.int b) = true ↔ a = b := by unfold PyData.eqv; simp
theorem eqv_bools {a b : Bool} : PyData.eqv (.bool a) (.bool b) = true ↔ a = b := by unfold PyData.eqv; simp
theorem eqvAll_nil : PyData.eqvAll [] [] = true := by unfold PyData.eqvAll; rfl
theorem eqvAll_cons {x y : PyData} {xs ys : List PyData} : PyData.eqvAll (x :: xs) (y :: ys) = (PyData.eqv x y && PyData.eqvAll xs ys) := by conv => lhs; unfold PyData.eqvAll
theorem eqvAll_intL {xs ys : List Int} : PyData.eqvAll (xs.map PyData.int) (ys.map PyData.int) = true ↔ xs = ys := eqvAll_map (fun _ _ => eqv_ints) xs ys
/-- == by what stands there -/
theorem eqD_py {S : Store} {d e : D} {p q : PyData} (h1 : py S 66 d = some p) (h2 : py S 66 e = some q) (s1 : SeqAt.shaped p = true) (s2 : SeqAt.shaped q = true) : eqD S d e = some (PyData.eqv p q) := by
  unfold eqD
  rw [h1, h2]
  dsimp only
  rw [if_pos ⟨s1, s2⟩]
theorem shaped_pl {nb : Bool} {d : D} {n : Nat} (hn : n ≤ 64) (h : d.pl nb n = true) : SeqAt.shaped (toP d) = true := by
  obtain ⟨a, b⟩ := shp_pl d n h
  unfold SeqAt.shaped; rw [a, decide_eq_true (by omega : (toP d).depth ≤ 64)]; rfl
end Ev
/-! Ev36: == of nested lists, longer stores. -/
namespace Ev
open PySem PySem.Spec PyProof.Rows L2
theorem mapM_ext {α β : Type} {f g : α → Option β} : ∀ {xs : List α} {ys : List β}, xs.mapM f = some ys → (∀ x ∈ xs, ∀ y, f x = some y → g x = some y) → xs.mapM g = some ys
  | [], ys, h, _ => h
  | x :: xs, ys, h, q => by
    rw [List.mapM_cons] at h ⊢
    cases h1 : f x with
    | none => rw [h1] at h; cases h
    | some y =>
      rw [h1] at h
      cases h2 : xs.mapM f with
      | none => rw [h2] at h; cases h
      | some zs =>
        rw [h2] at h
        rw [q x (by simp) y h1, mapM_ext h2 fun x hx => q x (by simp [hx])]
        exact h
theorem py_app {S T : Store} : ∀ {k : Nat} {d : D} {p : PyData}, py S k d = some p → py (S ++ T) k d = some p
  | 0, _, _, h => by cases h
  | k + 1, d, p, h => by
    have step : ∀ {ds : List D} {f : List PyData → PyData}, (ds.mapM (py S k)).map f = some p → (ds.mapM (py (S ++ T) k)).map f = some p := fun {ds f} h => by
      cases q : ds.mapM (py S k) with
      | none => rw [q] at h; cases h
      | some ps =>
        rw [q] at h
        rw [mapM_ext q fun x _ y hy => py_app hy]; exact h
    cases d <;> first | exact h | exact step h | skip
    rename_i n
    show (match (S ++ T)[n]? with
      | some (.lst ds) => (ds.mapM (py (S ++ T) k)).map PyData.list
      | _ => none) = some p
    have h : (match S[n]? with
      | some (.lst ds) => (ds.mapM (py S k)).map PyData.list
      | _ => none) = some p := h
    cases hn : S[n]? with
    | none => rw [hn] at h; cases h
    | some c =>
      rw [List.getElem?_append_left (List.getElem?_eq_some_iff.mp hn).1, hn]
      rw [hn] at h
      cases c <;> first | exact step h | exact h
theorem mapM_of {α β : Type} {f : α → Option β} : ∀ {xs : List α} {ys : List β}, xs.length = ys.length → (∀ (i : Nat) x y, xs[i]? = some x → ys[i]? = some y → f x = some y) → xs.mapM f = some ys
  | [], [], _, _ => rfl
  | [], _ :: _, h, _ => by simp at h
  | _ :: _, [], h, _ => by simp at h
  | x :: xs, y :: ys, h, q => by
    rw [List.mapM_cons, q 0 x y rfl rfl, mapM_of (xs := xs) (ys := ys) (by simpa using h) fun i x y h1 h2 => q (i + 1) x y (by simpa using h1) (by simpa using h2)]
    rfl
/-- what may be compared -/
def Shp (n : Nat) (p : PyData) : Prop := p.canLay0 = true ∧ p.depth ≤ n
theorem Shp.shaped {n : Nat} {p : PyData} (h : Shp n p) (hn : n ≤ 64) : SeqAt.shaped p = true := by
  unfold SeqAt.shaped; rw [h.1, decide_eq_true (Nat.le_trans h.2 hn)]; rfl
theorem Shp.up {n m : Nat} {p : PyData} (h : Shp n p) (hn : n ≤ m) : Shp m p := ⟨h.1, Nat.le_trans h.2 hn⟩
theorem shpAll {n : Nat} : ∀ {ps : List PyData}, (∀ p ∈ ps, Shp n p) → PyData.canLayAll0 ps = true ∧ PyData.depthAll ps ≤ n
  | [], _ => by unfold PyData.canLayAll0 PyData.depthAll; exact ⟨rfl, Nat.zero_le _⟩
  | p :: ps, h => by
    obtain ⟨h1, h2⟩ := h p (by simp)
    obtain ⟨h3, h4⟩ := shpAll fun q hq => h q (List.mem_cons_of_mem _ hq)
    unfold PyData.canLayAll0 PyData.depthAll
    exact ⟨by rw [h1, h3]; rfl, by omega⟩
theorem Shp.list {n : Nat} {ps : List PyData} (h : ∀ p ∈ ps, Shp n p) : Shp (n + 1) (.list ps) := by
  obtain ⟨h1, h2⟩ := shpAll h
  unfold Shp PyData.canLay0 PyData.depth
  exact ⟨h1, by omega⟩
theorem Shp.tuple {n : Nat} {ps : List PyData} (h : ∀ p ∈ ps, Shp n p) : Shp (n + 1) (.tuple ps) := by
  obtain ⟨h1, h2⟩ := shpAll h
  unfold Shp PyData.canLay0 PyData.depth
  exact ⟨h1, by omega⟩
theorem Shp.int {n : Nat} {i : Int} : Shp n (.int i) := by unfold Shp PyData.canLay0 PyData.depth; exact ⟨rfl, Nat.zero_le _⟩
theorem Shp.bool {n : Nat} {i : Bool} : Shp n (.bool i) := by unfold Shp PyData.canLay0 PyData.depth; exact ⟨rfl, Nat.zero_le _⟩
theorem Shp.none {n : Nat} : Shp n .none := by unfold Shp PyData.canLay0 PyData.depth; exact ⟨rfl, Nat.zero_le _⟩
theorem Shp.ofD {nb : Bool} {d : D} {n : Nat} (h : d.pl nb n = true) : Shp n (toP d) := shp_pl d n h
theorem Shp.ints {n : Nat} {ns : List Int} : ∀ p ∈ ns.map PyData.int, Shp n p := fun p hp => by obtain ⟨z, _, rfl⟩ := List.mem_map.mp hp; exact .int
theorem eqD_shp {S : Store} {d e : D} {p q : PyData} {n m : Nat} (h1 : py S 66 d = some p) (h2 : py S 66 e = some q) (s1 : Shp n p) (s2 : Shp m q) (hn : n ≤ 64) (hm : m ≤ 64) : eqD S d e = some (PyData.eqv p q) := eqD_py h1 h2 (s1.shaped hn) (s2.shaped hm)
theorem py_lst {S : Store} {d : D} {ds : List D} {k : Nat} (h : seqL S d = some ds) : py S (k + 1) d = (ds.mapM (py S k)).map PyData.list := by
  cases d <;> first | (cases h; rfl) | (cases h; done) | skip
  rename_i n
  have h2 : S[n]? = some (.lst ds) := by
    rw [seqL_ref] at h
    cases q : S[n]? with
    | none => rw [q] at h; cases h
    | some c =>
      rw [q] at h
      cases c <;> first | (cases h; rfl) | cases h
  show (match S[n]? with
      | some (.lst ds) => (ds.mapM (py S k)).map PyData.list
      | _ => none) = _
  rw [h2]
/-- lists of plain data -/
theorem eqD_lsts {nb : Bool} {S : Store} {d e : D} {ds es : List D} {n : Nat} (hn : n ≤ 60) (h1 : seqL S d = some ds) (h2 : seqL S e = some es) (p1 : plL nb n ds = true) (p2 : plL nb n es = true) : eqD S d e = some (PyData.eqvAll (toPL ds) (toPL es)) := by
  have z : ∀ {xs : List D}, plL nb n xs = true → Shp (n + 1) (.list (toPL xs)) := fun {xs} h => by
    obtain ⟨a, b⟩ := shp_plL xs n h
    unfold Shp PyData.canLay0 PyData.depth
    exact ⟨a, by omega⟩
  rw [eqD_shp (p := .list (toPL ds)) (q := .list (toPL es)) (by rw [py_lst h1, py_plL ds n 65 (by omega) p1]; rfl) (by rw [py_lst h2, py_plL es n 65 (by omega) p2]; rfl) (z p1) (z p2) (by omega) (by omega), eqv_lists]
theorem eqvAll_app : ∀ {xs ys zs ws : List PyData}, xs.length = ys.length → (PyData.eqvAll (xs ++ zs) (ys ++ ws) = true ↔ PyData.eqvAll xs ys = true ∧ PyData.eqvAll zs ws = true)
  | [], [], zs, ws, _ => by rw [eqvAll_nil]; simp
  | [], _ :: _, _, _, h => by simp at h
  | _ :: _, [], _, _, h => by simp at h
  | x :: xs, y :: ys, zs, ws, h => by
    rw [List.cons_append, List.cons_append, eqvAll_cons, eqvAll_cons, Bool.and_eq_true, Bool.and_eq_true, eqvAll_app (xs := xs) (ys := ys) (by simpa using h), and_assoc]
theorem eqvAll_len : ∀ {xs ys : List PyData}, PyData.eqvAll xs ys = true → xs.length = ys.length
  | [], [], _ => rfl
  | [], _ :: _, h => by unfold PyData.eqvAll at h; cases h
  | _ :: _, [], h => by unfold PyData.eqvAll at h; cases h
  | x :: xs, y :: ys, h => by
    rw [eqvAll_cons, Bool.and_eq_true] at h
    rw [List.length_cons, List.length_cons, eqvAll_len h.2]
/-- what is handed back stays as it is, with all that was made -/
theorem closeR_keep {S T : Store} {Q : D → Store → Prop} {ds : List D} (h : loL S.length ds = false) (q : Q (.tup ds) (S ++ T)) : closeR S Q (.tup ds) (S ++ T) := by
  refine closeR_eq (r := .tup ds) (S3 := S ++ T) ?_ q
  unfold closeD
  rw [if_pos (Clean.app T), if_neg (by rw [lo_tup, h]; simp)]
theorem closeR_keep' {S U : Store} {Q : D → Store → Prop} {d : D} (hc : Clean S U) (hl : d.lo S.length = false) (hr : ∀ n, d ≠ .ref n) (q : Q d U) : closeR S Q d U := by
  refine closeR_eq (r := d) (S3 := U) ?_ q
  unfold closeD
  rw [if_pos hc, if_neg (by rw [hl]; simp)]
  cases d <;> first | rfl | exact absurd rfl (hr _)
end Ev
/-! Ev37: lists by places, pairs of bounds, plain data. -/
namespace Ev
open PySem PySem.Spec PyProof.Rows L2
theorem take_succ' {α : Type} {xs : List α} {i : Nat} {x : α} (h : xs[i]? = some x) : xs.take (i + 1) = xs.take i ++ [x] := by
  rw [List.take_add_one, h]; rfl
theorem at_le {α : Type} {xs : List α} {i : Nat} {x : α} (h : xs[i]? = some x) : i + 1 ≤ xs.length := (List.getElem?_eq_some_iff.mp h).1
/-- a thing that a tuple holds as it is -/
def Sd (d : D) : Prop := (∀ n, d.lo n = true) ∧ ∀ S, box d S = (d, S)
theorem Sd.int {i : Int} : Sd (.int i) := ⟨fun _ => lo_int, fun _ => rfl⟩
theorem Sd.non : Sd .non := ⟨fun _ => rfl, fun _ => rfl⟩
theorem Sd.tup {ds : List D} (h : ∀ n, loL n ds = true) : Sd (.tup ds) := ⟨fun n => by rw [lo_tup]; exact h n, fun _ => rfl⟩
theorem take_take' {α : Type} {xs : List α} {a b : Nat} : xs.take a ++ (xs.drop a).take b = xs.take (a + b) := by rw [List.take_add]
theorem cat_ref {S T : Store} {ds ys : List D} (h : ds.length + ys.length ≤ sizeLine) : binD .Add (.ref S.length) (.lst ys) (S ++ .lst ds :: T) = some (.lst (ds ++ ys)) :=
  bin_cat (by rw [seqW_ref, getT0]; rfl) seqW_lst h
theorem cat_ref1 {S T : Store} {c : Cell} {ds ys : List D} (h : ds.length + ys.length ≤ sizeLine) : binD .Add (.ref (S.length + 1)) (.lst ys) (S ++ c :: .lst ds :: T) = some (.lst (ds ++ ys)) :=
  bin_cat (by rw [seqW_ref, getT]; rfl) seqW_lst h
theorem idx_lst {ds : List D} {S : Store} {i : Int} {d : D} (h0 : 0 ≤ i) (h : ds[i.toNat]? = some d) : idxD (.lst ds) (.int i) S = some d := by
  obtain ⟨k, rfl⟩ := Int.eq_ofNat_of_zero_le h0
  obtain ⟨hk, e⟩ := List.getElem?_eq_some_iff.mp h
  show atI ds (k : Int) = _
  have hk : k < ds.length := hk
  unfold atI ixN
  simp [hk, ← e]
theorem idx_any {d : D} {ds : List D} {S : Store} {i : Int} {e : D} (hd : seqA S d = some ds) (hs : ∀ x, d ≠ .str x) (h0 : 0 ≤ i) (h : ds[i.toNat]? = some e) : idxD d (.int i) S = some e := by
  obtain ⟨k, rfl⟩ := Int.eq_ofNat_of_zero_le h0
  obtain ⟨hk, he⟩ := List.getElem?_eq_some_iff.mp h
  have hk : k < ds.length := hk
  have go : atI ds (k : Int) = some e := by
    unfold atI ixN
    simp [hk, ← he]
  cases d <;> first | exact absurd rfl (hs _) | (unfold idxD; dsimp only; rw [hd]; exact go)
theorem seqA_of {S T : Store} {n : Nat} {ds : List D} (h : S[n]? = some (.lst ds)) : seqA (S ++ T) (.ref n) = some ds := by
  rw [seqA_ref, List.getElem?_append_left (List.getElem?_eq_some_iff.mp h).1, h]
theorem seqA_of0 {S : Store} {n : Nat} {ds : List D} (h : S[n]? = some (.lst ds)) : seqA S (.ref n) = some ds := by
  rw [seqA_ref, h]
theorem in63_0 : In63 0 = True := eq_true ⟨by decide, by decide⟩
theorem seqIdx0 {n : Nat} : seqIndex? 0 (n + 1) = some 0 := by unfold seqIndex?; simp
theorem len_sub {α : Type} {as : List α} {a b : Nat} (h : a + b ≤ as.length) : ((as.drop a).take b).length = b := by rw [List.length_take, List.length_drop]; omega
theorem get_sub {α : Type} {as : List α} {a b j : Nat} {x : α} (h : ((as.drop a).take b)[j]? = some x) : j < b ∧ as[a + j]? = some x := by
  have hj : j < b := by
    have := (List.getElem?_eq_some_iff.mp h).1
    rw [List.length_take] at this; omega
  rw [List.getElem?_take_of_lt hj, List.getElem?_drop] at h
  exact ⟨hj, h⟩
theorem rel_snoc {α β : Type} {R : α → β → Prop} {as : List α} {bs : List β} {a : α} {b : β} (h : ∀ (i : Nat) a b, as[i]? = some a → bs[i]? = some b → R a b) (ha : as[bs.length]? = some a) (r : R a b) : ∀ (i : Nat) a b', as[i]? = some a → (bs ++ [b])[i]? = some b' → R a b' := by
  intro i a' b' h1 h2
  rcases Nat.lt_trichotomy i bs.length with q | q | q
  · rw [List.getElem?_append_left q] at h2; exact h i a' b' h1 h2
  · subst q
    rw [ha] at h1; cases h1
    rw [List.getElem?_append_right (Nat.le_refl _), Nat.sub_self] at h2; cases h2; exact r
  · rw [List.getElem?_append_right (by omega)] at h2
    have : i - bs.length = (i - bs.length - 1) + 1 := by omega
    rw [this] at h2; simp at h2
theorem fits {i : Int} (h0 : -1000000 ≤ i) (h1 : i < 1000000) : Builtin.Range.rangeFitsLong i = true := by
  unfold Builtin.Range.rangeFitsLong
  rw [decide_eq_true (by omega), decide_eq_true (by omega)]; rfl
theorem rgc_of {i j c : Int} (hc : 0 < c) (hc2 : c < 1000) (h0 : 0 ≤ i) (h1 : i < 100000) (h2 : 0 ≤ j) (h3 : j < 100000) : RgC i j c (rgN i j c) := by
  have hs : 0 ≤ Builtin.Range.rangeSize i j c ∧ Builtin.Range.rangeSize i j c ≤ 100000 := by
    unfold Builtin.Range.rangeSize
    rw [if_pos hc]
    split
    · have a0 : 0 ≤ (j - i - 1) / c := Int.ediv_nonneg (by omega) (by omega)
      have a1 : (j - i - 1) / c ≤ j - i - 1 := Int.ediv_le_self _ (by omega)
      omega
    · omega
  refine ⟨by omega, by omega, ?_, ?_⟩
  · unfold Builtin.Range.small
    rw [fits (by omega) (by omega), fits (by omega) (by omega), fits (by omega) (by omega), fits (by omega) (by omega), if_pos hc, fits (by omega) (by omega), Bool.or_true]; rfl
  · unfold rgN; omega
theorem rangeC_at {lo c : Int} {n i : Nat} {d : D} (h : (rangeC lo c n)[i]? = some d) : d = .int (lo + (i : Int) * c) ∧ i < n := by
  unfold rangeC at h
  rw [List.getElem?_map] at h
  obtain ⟨k, hk, rfl⟩ := Option.map_eq_some_iff.mp h
  obtain ⟨hk1, hk2⟩ := List.getElem?_eq_some_iff.mp hk
  rw [List.getElem_range] at hk2
  subst hk2
  exact ⟨rfl, by simpa using hk1⟩
theorem zipw_get {α β γ : Type} {f : α → β → γ} {as : List α} {bs : List β} {i : Nat} {c : γ} (h : (List.zipWith f as bs)[i]? = some c) : ∃ a b, as[i]? = some a ∧ bs[i]? = some b ∧ c = f a b := by
  rw [List.getElem?_zipWith] at h
  cases a1 : as[i]? with
  | none => rw [a1] at h; cases h
  | some a =>
    cases a2 : bs[i]? with
    | none => rw [a1, a2] at h; cases h
    | some b => rw [a1, a2] at h; cases h; exact ⟨a, b, rfl, rfl, rfl⟩
def Each {α β : Type} (R : α → β → Prop) (as : List α) (bs : List β) : Prop := ∀ (i : Nat) a b, as[i]? = some a → bs[i]? = some b → R a b
theorem idx_nn {zs : List Int} {i : Int} {S : Store} (hz : ∀ z ∈ zs, 0 ≤ z) (h0 : 0 ≤ i) (h1 : i < zs.length) : ∃ z : Int, 0 ≤ z ∧ idxD (.lst (zs.map .int)) (.int i) S = some (.int z) :=
  ⟨_, hz _ (ati_mem h0 h1), idx_lst h0 (by rw [List.getElem?_map, ati_some h0 h1]; rfl)⟩
def bdD : Option Int → D
  | none => .non
  | some i => .int i
abbrev Pr := Option Int × Option Int
def prD (p : Pr) : D := .tup [bdD p.1, bdD p.2]
theorem bd_lo {n : Nat} {b : Option Int} : (bdD b).lo n = true := by cases b <;> rfl
theorem box_bd {S : Store} {b : Option Int} : box (bdD b) S = (bdD b, S) := by cases b <;> rfl
theorem getA {S A B W : Store} {c0 c : Cell} {n : Nat} (e : W = S ++ c0 :: (A ++ c :: B)) (h : n = S.length + (A.length + 1)) : W[n]? = some c := by
  rw [e, h, getT, List.getElem?_cons_succ, getT0]; rfl
theorem mem_map' {α β : Type} {f : α → β} {xs : List α} {P : β → Prop} (h : ∀ x, P (f x)) : ∀ y ∈ xs.map f, P y := fun y hy => by obtain ⟨x, _, rfl⟩ := List.mem_map.mp hy; exact h x
theorem cutT_2 {a b : D} {ds : List D} {S : Store} : cutD (.tup (a :: b :: ds)) (some 2) none S = some (.tup ds) := by
  show some (D.tup (cutL (a :: b :: ds) (some ((2 : Nat) : Int)) none)) = _
  rw [cutL_from (by simp)]; rfl
theorem toPL_ints {ns : List Int} : toPL (ns.map D.int) = ns.map PyData.int := by
  rw [toPL_map, List.map_map]; rfl
theorem toP_tup {ds : List D} : toP (.tup ds) = .tuple (toPL ds) := by unfold toP; rfl
theorem toPL_cons {d : D} {ds : List D} : toPL (d :: ds) = toP d :: toPL ds := by rfl
theorem toPL_nil : toPL [] = [] := by rfl
theorem toP_int {i : Int} : toP (.int i) = .int i := by rfl
theorem toP_bl {i : Bool} : toP (.bl i) = .bool i := by rfl
theorem pl_tup {nb : Bool} {n : Nat} {ds : List D} : (D.tup ds).pl nb (n + 1) = plL nb n ds := by conv => lhs; unfold D.pl
theorem plL_nil {nb : Bool} {n : Nat} : plL nb n [] = true := by unfold plL; rfl
theorem plL_cons {nb : Bool} {n : Nat} {d : D} {ds : List D} : plL nb n (d :: ds) = (d.pl nb n && plL nb n ds) := by conv => lhs; unfold plL
theorem pl_int {nb : Bool} {n : Nat} {i : Int} : (D.int i).pl nb n = true := by cases n <;> (unfold D.pl; rfl)
theorem pl_non {nb : Bool} {n : Nat} : (D.non).pl nb n = true := by cases n <;> (unfold D.pl; rfl)
theorem pl_bl {n : Nat} {b : Bool} : (D.bl b).pl false n = true := by cases n <;> (unfold D.pl; rfl)
theorem rep_flat {k : Nat} {d : D} : (List.replicate k [d]).flatten = List.replicate k d := by
  induction k with
  | zero => rfl
  | succ k ih => rw [List.replicate_succ, List.flatten_cons, ih]; rfl
theorem mul_one {d : D} {k : Nat} {S : Store} (h : k ≤ 100000) : binD .Mult (.lst [d]) (.int (k : Int)) S = some (.lst (List.replicate k d)) := by
  show mulD (.lst [d]) (.int (k : Int)) S = _
  unfold mulD
  dsimp only
  rw [seqW_lst]
  dsimp only
  rw [if_pos ⟨⟨by omega, by omega⟩, by rw [Int.toNat_natCast]; exact sz_le (by simpa using h)⟩, Int.toNat_natCast, rep_flat]
theorem getTT {S T V W : Store} {c0 c new : Cell} : (S ++ c0 :: (T ++ c :: ((V ++ [new]) ++ W)))[S.length + (T.length + 1) + (V.length + 1)]? = some new := by
  have e : S ++ c0 :: (T ++ c :: ((V ++ [new]) ++ W)) = (S ++ c0 :: (T ++ c :: V)) ++ new :: W := by simp
  have l : S.length + (T.length + 1) + (V.length + 1) = (S ++ c0 :: (T ++ c :: V)).length := by simp; omega
  rw [e, l, getT0]; rfl
end Ev
/-! Ev38: list.count of flat things. -/
namespace Ev
open PySem PySem.Spec PyProof.Rows L2
def rCntF (K : PySem.W.Frag) : V → List V → Hp → VK → Prop := fun x xs H Q => ∃ (p : Addr) (ys : List V) (k : V), x = .ref p ∧ xs = [k] ∧ SqL K H p ys ∧ flatV k = true ∧ ys.all flatV = true ∧ Q (.int (ys.countP (fun y => eqV y k) : Nat)) H
theorem count_eqU {x : V} : ∀ {xs : List V} {us : List Value}, Vals xs us → xs.all flatV = true → us.countP (eqU x) = xs.countP fun y => eqV y x
  | _, _, .nil, _ => rfl
  | y :: xs, u :: us, .cons r t, f => by
    rw [List.all_cons, Bool.and_eq_true] at f
    rw [List.countP_cons, List.countP_cons, eqU_of r f.1, count_eqU t f.2]
section
variable {X : Cx}
theorem mt_countF : MtR X "list.count" (rCntF X.K) := by
  intro pins s σ H x xs v us Q I rx rxs h
  obtain ⟨p, ys, k, rfl, rfl, hs, fk, fys, q⟩ := h
  cases rx
  obtain ⟨u, rfl, ru⟩ := rxs.one
  obtain ⟨its, rv, ⟨⟨cls, dd, data, sl⟩, n, ho, hc, hdn, hd⟩, hlen⟩ := I.list hs
  simp only at hc hd
  subst hc hd
  refine call_meets PySem.F.slot_list_count ⟨_, ho, rfl⟩ PySem.F.entry_list_count (PySem.F.args_list_count_2 _ _)
    (SeqAt.list_countAt p its.toArray n dd sl u (eqU k)) ⟨ho, fun y hy => mem_eqAt ru fk rv fys y (by simpa using hy), ?_⟩
  have ec : its.toArray.toList.countP (eqU k) = ys.countP fun y => eqV y k := count_eqU rv fys
  refine ⟨.int (ys.countP (fun y => eqV y k) : Nat), H, I.tok _, ⟨s.toks, ?_⟩, q⟩
  show Value.int ((its.toArray.toList.countP (eqU k) : Nat) : Int) s.toks = Value.int ((ys.countP (fun y => eqV y k) : Nat) : Int) s.toks
  rw [ec]
end
/-- o.count(e), flat things -/
def cntF (o : Option (List D)) (e : D) : Option D := match o, flatD e with
  | some ds, some k => match ds.mapM flatD with
    | some vs => some (.int (vs.countP (fun y => eqV y k) : Nat))
    | none => none
  | _, _ => none
def mCountF (mo me : M D) : M D := fun ρ S => (mo ρ S).bind fun o S1 => if (seqL S1 o).isSome = true then (me ρ S1).bind fun e S2 => Out.of (cntF (seqL S2 o) e) S2 else .fail
section
variable {X : Cx} {W : WX}
theorem ev_countF {o e : Expr} {apos pos : Pos} {mo me : M D} (ho : EvE X W o mo) (he : EvE X W e me) (hb : notCall0 o = true) (hs : notStar e = true) (hline : (apos.endLine == pos.line) = true) :
    EvE X W (.Call (.Attribute o "count" apos) [e] [] pos) (mCountF mo me) := by
  refine EvE.of_pe (pe_bm (T := "list") (id := "list.count") PySem.F.plainAttrs_list PySem.F.slot_list_count PySem.F.type_list_count mt_countF ho.pe (pa_one he hs) (base_of hb _) (by rw [star_of hs]; rfl) hline (star_of hs) rfl) fun σ H μ S ρ R E F => ?_
  unfold mCountF at F ⊢
  refine tm1 R E F fun d S1 v μ1 H1 e1 st x R1 E1 F1 => ?_
  rw [e1, bind_ok]
  split at F1
  · rename_i hl
    obtain ⟨ds0, h0⟩ := Option.isSome_iff_exists.mp hl
    obtain ⟨a0, vs0, ev, hq0, _⟩ := seqL_ok R1 x h0
    subst ev
    refine ⟨.inl ⟨rfl, _, hq0⟩, ?_⟩
    simp only [hl, if_true]
    refine tm1 R1 E1 F1 fun d2 S2 w μ2 H2 e2 st2 x2 R2 E2 F2 => ?_
    rw [e2, bind_ok]
    obtain ⟨r, er⟩ := fine_of F2
    have er0 := er
    unfold cntF at er
    split at er
    · rename_i ds k h2 hk
      split at er
      · rename_i ns hn
        cases er
        obtain ⟨a, vs, ea, hq, rl⟩ := seqL_ok R2 (x.step R1 st2) h2
        cases ea
        obtain ⟨en, fn⟩ := flatL_ok hn rl
        subst en
        obtain ⟨ek, fk⟩ := flatD_ok hk x2
        subst ek
        exact ⟨a0, _, _, rfl, rfl, hq, fk, fn, _, S2, μ2, by rw [er0]; rfl, st.trans R st2, ResOk.plain (by unfold Rep; rfl)⟩
      · cases er
    · cases er
  · exact F1.elim
end
section
variable {ρ : Env'} {S : Store} {a b : M D}
@[simp] theorem x_countF : mCountF a b ρ S = (a ρ S).bind fun o S1 => if (seqL S1 o).isSome = true then (b ρ S1).bind fun e S2 => Out.of (cntF (seqL S2 o) e) S2 else .fail := (rfl)
end
end Ev
/-! Ev39: raise C(a, b), C an own class of exceptions whose __init__ calls its base's and keeps a, b. -/
namespace Ev
open PySem PySem.Spec PyProof.Rows L2
/-- the base, a class of the program over ValueError without an __init__ -/
structure BaseT (K : PySem.W.Frag) (mg : Str → Option Value) (L : Str) : Prop where
  ex : ∃ B : Addr, mg L = some (.ref B) ∧ PySem.W.specialIn K (.ref B) "__getattribute__" = some (some (.builtin "type.__getattribute__")) ∧ PySem.W.readsIn K B (.type "type") = true ∧
    PySem.W.findCls K (.ref B) (.type "type") "__init__" = some (.val (.builtin "ValueError.__init__"))
section
variable {X : Cx} {e : Expr} {es : List Expr} {ta : TA} {L : Str} {p1 p2 pos : Pos}
theorem pe_baseinit {pl : Sem Bool} (hg : Gl X L) (hT : BaseT X.K X.mg L) (ha : PA X (e :: es) ta) (hdb : (L == ("__debug__" : Str)) = false)
    (hc : eval (.Call (.Attribute (.Name L p1) "__init__" p2) (e :: es) [] pos) X.env = (do
      let ov ← eval (.Name L p1) X.env
      standAt p2.atName
      let (f, first) ← holding [ov] (getMethod ov "__init__" pl)
      callWith pos f first (backTo pos (starEach (e :: es) X.env)) (backToKw pos (keywordEach [] X.env))))
    (he : starEach (e :: es) X.env = (false, eval e X.env) :: starEach es X.env) (hpl : (backTo pos (starEach es X.env)).any (·.1) = false) :
    PE X (.Call (.Attribute (.Name L p1) "__init__" p2) (e :: es) [] pos) (tVeI X.K ta) := by
  obtain ⟨B, hm, h1, h2, h3⟩ := hT.ex
  refine ⟨fun pins s σ H Q I h => ?_⟩
  refine PySem.W.methodCall_KW (ld_glob I hg hm ?_ hdb) hc
  refine PySem.W.method_cls I.kIn h1 (PySem.W.cls_value I.kIn h2 h3 (by decide +kernel) ?_)
  show wpAny _ _ (callWith pos (Value.builtin "ValueError.__init__") [] (backTo pos (starEach (e :: es) X.env)) []) _ _ _
  refine PyProof.Rows.callWith_method1 (thn (ha.run pos pins _ σ H _ (I.tok _) h) fun us s1 ⟨vs, H1, I1, r1, a, C, ws, ev, hl, T, ea, q⟩ => ?_) he hpl
  subst ev
  cases r1 with
  | @cons _ u0 _ ur ra rw' =>
    obtain rfl : u0 = Value.ref a := ra
    have hlen : ur.length ≤ sizeLine := by
      rw [← Paired.length rw', sizeLine_eq]
      omega
    exact oinit_ok T I1 ea hlen fun s' J => ⟨.non, H1, J, rfl, q⟩
/-- C(e, ..), C an own class of exceptions with an __init__; what is made has no context -/
theorem mkN {CXx : CXT} {y : Str} {o : Expr} {os : List Expr} {tas : TA} {pp ppos : Pos} {C fI : Addr} {j : Nat} {fd : FuncData} {ps : List Str} {sp : Sp} (T : OexC X.K C) (iC : PySem.W.findIn X.K (.ref C) "__init__" = some (some (.ref fI)))
    (tI : PySem.W.typeIn X.K (.ref fI) = some (.type "function")) (Fk : FnOk X.prog X.w X.K X.mg X.base CXx j fI fd ps sp) (rm : Room (j + 1) X.A) (bd : Binds X.K fd ps []) (px : Passes CXx X (fun _ _ _ => False)) (gl : Gl X y) (my : X.mg y = some (.ref C))
    (pa : PA X (o :: os) tas) (db : (y == ("__debug__" : Str)) = false) (st : starEach (o :: os) X.env = (false, eval o X.env) :: starEach os X.env) (pl : (backTo ppos (starEach os X.env)).any (·.1) = false) :
    L2N.PMk X (.Call (.Name y pp) (o :: os) [] ppos) (tMkO C sp [] tas) := by
  intro pins s0 σ H Q J0 want
  obtain ⟨_, _, _, _, bm, _, _, _, _, _, _, _, _, _, _, clsAt, refs⟩ := T.cls
  refine wpAny_Call_Name_kw (ld_glob J0 gl my ?_ db)
  refine PySem.W.callWith_K (h₀ := X.base) J0.ok.mod.kin T.kC ?_ st pl
  refine thn (pa.run ppos pins s0 σ H _ J0 want) fun us s1 got => ?_
  obtain ⟨vs, H1, J1, vv, _, want1⟩ := got
  refine ⟨J1.kIn, ?_⟩
  show wpAny _ _ (call (.ref C) us) _ _ _
  obtain ⟨h0, gn, dw, tt, oss⟩ := s1
  generalize en : h0.objs.size + 1 = n
  have le : h0.objs.size ≤ n := by omega
  have hq := want1 n (J1.hok.fresh le)
  rw [List.append_nil] at hq
  generalize eh : (h0.push (PySem.W.kdv_tup us)).push (PySem.HandSPX.excO C h0.objs.size) = h1
  have more : ∀ b ob, h0.get? b = some ob → h1.get? b = some ob := fun b ob e => by
    subst eh
    exact Heap.get?_push_of_some _ (Heap.get?_push_of_some _ e)
  have made : h1.get? n = some (PySem.HandSPX.excO C h0.objs.size) := by
    subst eh; subst en
    heap_get
  have J2 : Inv X pins σ (upd H1 n (exo n C none)) ⟨h1, gn, dw, tt, oss⟩ := J1.laid (t' := tt) (a := n) (o := exo n C none) (h' := h1) more le (exo_ok made)
  have v2 : Vals (V.ref n :: vs) (Value.ref n :: us) := .cons rfl vv
  have lens : (Value.ref n :: us ++ []).length = ps.length := by
    rw [List.append_nil, ← v2.length]; exact Fk.len _ _ _ _ hq
  have small : us.length ≤ sizeLine := by rw [← Paired.length vv, sizeLine_eq]; omega
  have b2 := bd _ (Value.ref n :: us) J2.kIn lens
  rw [List.append_nil] at b2
  subst eh; subst en
  have run := Fk.run _ X.stack _ _ ⟨Value.ref (h0.objs.size + 1) :: us, []⟩ (Value.ref (h0.objs.size + 1) :: us) _ _ (fun _ _ _ => False) (rm.make C us []) (J2.env0.make C us []) b2 v2 hq
  refine wpAny_call (PySem.HandSPX.call_own F.excBase_ValueError (fun Y => PySem.HandSPX.refsVE_contains Y bm refs) (J1.kIn _ _ clsAt) (PySem.W.looks_findIn J1.kIn iC) (fun self => PySem.W.bind_fn J1.kIn self tI) small
    (codeAny_mono run fun r s' fin => ?_))
  cases r with
  | error er => exact px pins σ _ _ er s' J2 fin
  | ok fl =>
    cases fl with
    | ret u =>
      obtain ⟨v, H2, sameOs, bare, un, hk, rv, ev, d, fs, ea, ed, dn, q2⟩ := fin
      subst ev
      obtain ⟨h2, g2, d2, t2, os2⟩ := s'
      obtain ⟨t0, G, J3, kG, ge, hoe, na⟩ := mk_end0 (d2 := d2) (t2 := t2) J1 le more un hk sameOs bare ea ed dn
      exact ⟨rv, h0.objs.size + 1, _, _, ⟨G, g2, d2, t2, os2⟩, _, .ref C, some d, rfl, J3, kG, ge, hoe, ⟨rfl, rfl, fun ws e => by cases e; rfl⟩, rfl, rfl, na, rfl, bare, raises_own T.exC T.tyC, q2⟩
    | next => exact fin.elim
    | brk => exact fin.elim
    | cont => exact fin.elim
end
/-- what __init__ with two fields promises -/
def spI2 (K : PySem.W.Frag) (f1 f2 : Str) : Sp := fun vs H Q E => ∃ (a C : Addr) (y1 y2 : V), vs = [.ref a, y1, y2] ∧ OexC K C ∧ PySem.W.findIn K (.ref C) f1 = some none ∧ PySem.W.findIn K (.ref C) f2 = some none ∧ H a = some (exo a C none) ∧
  ∀ dx, H dx = none → dx ≠ a → Q .non (upd (upd H dx (exd dx [(f2, y2), (f1, y1)])) a (exo a C (some dx)))
def spI1 (K : PySem.W.Frag) (f1 : Str) : Sp := fun vs H Q E => ∃ (a C : Addr) (y1 : V), vs = [.ref a, y1] ∧ OexC K C ∧ PySem.W.findIn K (.ref C) f1 = some none ∧ H a = some (exo a C none) ∧
  ∀ dx, H dx = none → dx ≠ a → Q .non (upd (upd H dx (exd dx [(f1, y1)])) a (exo a C (some dx)))
theorem upd_turn {H : Hp} {d a : Addr} {o o' u : HO} (h : d ≠ a) : upd (upd (upd H d o) a u) d o' = upd (upd H d o') a u := by
  funext b
  by_cases hd : b = d
  · subst hd; rw [upd_same, upd_ne h, upd_same]
  · rw [upd_ne hd]
    by_cases ha : b = a
    · subst ha; rw [upd_same, upd_same]
    · rw [upd_ne ha, upd_ne ha, upd_ne hd, upd_ne hd]
section
variable {P : Program} {w : World} {K : PySem.W.Frag} {mg : Str → Option Value} {base : Heap}
theorem init2_ok {x qual sf a1 a2 f1 f2 L m : Str} {st : Stmt} {f : Addr} {fd : FuncData} {j : Nat} {p1 p2 p3 p4 p5 p6 p7 p8 p9 p10 q7 q8 q9 q10 : Pos} (F : Fun K x qual st f fd) (Sc : FnScope [sf, a1, a2] [sf, a1, a2] (defScope st)) (hT : BaseT K mg L) (hL : (L == ("__debug__" : Str)) = false)
    (hst : defBody st = [.Expr (.Call (.Attribute (.Name L p1) "__init__" p2) [.Name sf p3, .Constant (.str m) j p4] [] p5) p6, .Assign [.Attribute (.Name sf p7) f1 p8] (.Name a1 p9) p10, .Assign [.Attribute (.Name sf q7) f2 q8] (.Name a2 q9) q10])
    (hg : ∀ cdv A outer s H E, Gl (cxOf CX0 P w K mg base [sf, a1, a2] qual (defScope st) f cdv A outer s H E).nox L) (hl : (p2.endLine == p5.line) = true)
    (v0 : visB (defScope st) sf = true) (v1 : visB (defScope st) a1 = true) (v2 : visB (defScope st) a2 = true)
    (d0 : (sf == ("__debug__" : Str)) = false ∧ (sf == ("__classdict__" : Str)) = false) (d1 : (a1 == ("__debug__" : Str)) = false ∧ (a1 == ("__classdict__" : Str)) = false) (d2 : (a2 == ("__debug__" : Str)) = false ∧ (a2 == ("__classdict__" : Str)) = false) :
    FnOk P w K mg base CX0 1 f fd [sf, a1, a2] (spI2 K f1 f2) := by
  refine F.ok (k := 0) Sc (fun vs H Q E h => ?_) fun cdv A outer s H vs Q E hr h => ?_
  · obtain ⟨a, C, y1, y2, rfl, _⟩ := h; rfl
  · obtain ⟨a, C, y1, y2, rfl, T, n1, n2, ea, q⟩ := h
    have V0 := vis_of v0
    have V1 := vis_of v1
    have V2 := vis_of v2
    rw [hst]
    refine ⟨_, pss_cons (ps_expr (pe_baseinit (hg _ _ _ _ _ _) hT (pa_cons (pe_var (i := 0) rfl V0 d0.1 d0.2) (pa_cons pe_str pa_nil)) hL (meth_form rfl rfl (by simp) hl) rfl rfl) rfl)
      (pss_cons (ps_ost (pe_var (i := 0) rfl V0 d0.1 d0.2) (pe_var (i := 1) rfl V1 d1.1 d1.2) rfl) (pss_one (ps_ost (pe_var (i := 0) rfl V0 d0.1 d0.2) (pe_var (i := 2) rfl V2 d2.1 d2.2) rfl))), ?_⟩
    refine ⟨_, rfl, a, C, [.str m], rfl, by simp, T, ea, ?_⟩
    refine ⟨_, rfl, _, rfl, a, C, rfl, T, n1, .inl ⟨ea, fun dx hd hne => ?_⟩⟩
    refine ⟨_, rfl, _, rfl, a, C, rfl, T, n2, .inr ⟨dx, [(f1, y1)], upd_same, by rw [upd_ne hne, upd_same], by simp, ?_⟩⟩
    rw [upd_turn hne]
    exact q dx hd hne
theorem init1_ok {x qual sf a1 f1 L m : Str} {st : Stmt} {f : Addr} {fd : FuncData} {j : Nat} {p1 p2 p3 p4 p5 p6 p7 p8 p9 p10 : Pos} (F : Fun K x qual st f fd) (Sc : FnScope [sf, a1] [sf, a1] (defScope st)) (hT : BaseT K mg L) (hL : (L == ("__debug__" : Str)) = false)
    (hst : defBody st = [.Expr (.Call (.Attribute (.Name L p1) "__init__" p2) [.Name sf p3, .Constant (.str m) j p4] [] p5) p6, .Assign [.Attribute (.Name sf p7) f1 p8] (.Name a1 p9) p10])
    (hg : ∀ cdv A outer s H E, Gl (cxOf CX0 P w K mg base [sf, a1] qual (defScope st) f cdv A outer s H E).nox L) (hl : (p2.endLine == p5.line) = true)
    (v0 : visB (defScope st) sf = true) (v1 : visB (defScope st) a1 = true)
    (d0 : (sf == ("__debug__" : Str)) = false ∧ (sf == ("__classdict__" : Str)) = false) (d1 : (a1 == ("__debug__" : Str)) = false ∧ (a1 == ("__classdict__" : Str)) = false) :
    FnOk P w K mg base CX0 1 f fd [sf, a1] (spI1 K f1) := by
  refine F.ok (k := 0) Sc (fun vs H Q E h => ?_) fun cdv A outer s H vs Q E hr h => ?_
  · obtain ⟨a, C, y1, rfl, _⟩ := h; rfl
  · obtain ⟨a, C, y1, rfl, T, n1, ea, q⟩ := h
    have V0 := vis_of v0
    have V1 := vis_of v1
    rw [hst]
    refine ⟨_, pss_cons (ps_expr (pe_baseinit (hg _ _ _ _ _ _) hT (pa_cons (pe_var (i := 0) rfl V0 d0.1 d0.2) (pa_cons pe_str pa_nil)) hL (meth_form rfl rfl (by simp) hl) rfl rfl) rfl)
      (pss_one (ps_ost (pe_var (i := 0) rfl V0 d0.1 d0.2) (pe_var (i := 1) rfl V1 d1.1 d1.2) rfl)), ?_⟩
    refine ⟨_, rfl, a, C, [.str m], rfl, by simp, T, ea, ?_⟩
    exact ⟨_, rfl, _, rfl, a, C, rfl, T, n1, .inl ⟨ea, fun dx hd hne => q dx hd hne⟩⟩
end
/-- an own class of exceptions with an __init__ of two fields -/
structure ExcI2 (X : Cx) (x f1 f2 : Str) : Prop where
  ex : ∃ (C fI : Addr) (fd : FuncData) (ps : List Str), X.mg x = some (.ref C) ∧ OexC X.K C ∧ PySem.W.findIn X.K (.ref C) "__init__" = some (some (.ref fI)) ∧ PySem.W.typeIn X.K (.ref fI) = some (.type "function") ∧
    PySem.W.findIn X.K (.ref C) f1 = some none ∧ PySem.W.findIn X.K (.ref C) f2 = some none ∧ Binds X.K fd ps [] ∧ FnOk X.prog X.w X.K X.mg X.base CX0 1 fI fd ps (spI2 X.K f1 f2)
structure ExcI1 (X : Cx) (x f1 : Str) : Prop where
  ex : ∃ (C fI : Addr) (fd : FuncData) (ps : List Str), X.mg x = some (.ref C) ∧ OexC X.K C ∧ PySem.W.findIn X.K (.ref C) "__init__" = some (some (.ref fI)) ∧ PySem.W.typeIn X.K (.ref fI) = some (.type "function") ∧
    PySem.W.findIn X.K (.ref C) f1 = some none ∧ Binds X.K fd ps [] ∧ FnOk X.prog X.w X.K X.mg X.base CX0 1 fI fd ps (spI1 X.K f1)
def sRaise2 (x f1 f2 : Str) (m1 m2 : M D) : MS := fun ρ S => (m1 ρ S).s ρ fun d1 S1 => (m2 ρ S1).s ρ fun d2 S2 => if d1.cell? = none ∧ d2.cell? = none then .exc x [f2, f1] [d2, d1] ρ S2 else .fail
def sRaise1 (x f1 : Str) (m1 : M D) : MS := fun ρ S => (m1 ρ S).s ρ fun d1 S1 => if d1.cell? = none then .exc x [f1] [d1] ρ S1 else .fail
theorem del_turn {H : Hp} {a d : Addr} {o1 o2 o3 u : HO} (hne : d ≠ a) (ha : H a = none) : upd (del (upd (upd (upd H a o1) d o2) a o3) a) d u = upd H d u := by
  funext b
  by_cases hd : b = d
  · subst hd; rw [upd_same, upd_same]
  · rw [upd_ne hd, upd_ne hd]
    by_cases hb : b = a
    · subst hb; rw [del_same, ha]
    · rw [del_ne hb, upd_ne hb, upd_ne hd, upd_ne hb]
section
variable {X : Cx} {W : WX}
theorem evs_raise2 {x f1 f2 : Str} {e1 e2 : Expr} {m1 m2 : M D} {p pos pos' : Pos} (hc : X.calm = true) (tk : L2N.Takes X W) (hx : ExcI2 X x f1 f2) (hr : Room 2 X.A) (hg : Gl X x) (h1 : EvE X W e1 m1) (h2 : EvE X W e2 m2) (s1 : notStar e1 = true) (s2 : notStar e2 = true) (hdb : (x == ("__debug__" : Str)) = false) :
    EvS X W (.Raise (some (.Call (.Name x p) [e1, e2] [] pos)) none pos') (sRaise2 x f1 f2 m1 m2) := by
  obtain ⟨C, fI, fd, ps, hm, T, iC, tI, n1, n2, hb, Fk⟩ := hx.ex
  refine PS.imp (L2N.ps_raise hc tk (mkN T iC tI Fk hr hb pass0 hg hm (pa_cons h1.pe (pa_cons h2.pe pa_nil (star_of s2)) (star_of s1)) hdb (star_of s1) (by rw [star_of s2]; rfl))) fun E σ H ⟨μ, S, ρ, R, En, G⟩ => ?_
  unfold sRaise2 at G
  refine tms1 R En G fun d1 S1 v1 μ1 H1 e1 st1 x1 R1 E1 G1 => ?_
  refine tms1 R1 E1 G1 fun d2 S2 v2 μ2 H2 e2 st2 x2 R2 E2 G2 => ?_
  split at G2
  · rename_i hcell
    refine ⟨by simp, fun a ha => ⟨a, C, v1, v2, rfl, T, n1, n2, upd_same, fun dx hd hne => ?_⟩⟩
    have hdx : H2 dx = none := by rw [upd_ne hne] at hd; exact hd
    refine ⟨rfl, dx, [(f2, v2), (f1, v1)], upd_same, by rw [upd_ne hne, upd_same], hdx, ?_⟩
    rw [del_turn hne ha]
    have st := Step.fresh (o := .xd [(f2, v2), (f1, v1)]) R2 hdx
    have y1 := (x1.step R1 st2).rep hcell.1
    have y2 := x2.rep hcell.2
    exact G2 (.ref C) (some dx) σ μ2 _ st (E2.step R2 st) ⟨C, hm, rfl, [v2, v1], upd_same, rfl, RepL.cons (st.rep R2 y2) (RepL.cons (st.rep R2 y1) RepL.nil)⟩
  · exact G2.elim
theorem evs_raise1 {x f1 : Str} {e1 : Expr} {m1 : M D} {p pos pos' : Pos} (hc : X.calm = true) (tk : L2N.Takes X W) (hx : ExcI1 X x f1) (hr : Room 2 X.A) (hg : Gl X x) (h1 : EvE X W e1 m1) (s1 : notStar e1 = true) (hdb : (x == ("__debug__" : Str)) = false) :
    EvS X W (.Raise (some (.Call (.Name x p) [e1] [] pos)) none pos') (sRaise1 x f1 m1) := by
  obtain ⟨C, fI, fd, ps, hm, T, iC, tI, n1, hb, Fk⟩ := hx.ex
  refine PS.imp (L2N.ps_raise hc tk (mkN T iC tI Fk hr hb pass0 hg hm (pa_cons h1.pe pa_nil (star_of s1)) hdb (star_of s1) rfl)) fun E σ H ⟨μ, S, ρ, R, En, G⟩ => ?_
  unfold sRaise1 at G
  refine tms1 R En G fun d1 S1 v1 μ1 H1 e1 st1 x1 R1 E1 G1 => ?_
  split at G1
  · rename_i hcell
    refine ⟨by simp, fun a ha => ⟨a, C, v1, rfl, T, n1, upd_same, fun dx hd hne => ?_⟩⟩
    have hdx : H1 dx = none := by rw [upd_ne hne] at hd; exact hd
    refine ⟨rfl, dx, [(f1, v1)], upd_same, by rw [upd_ne hne, upd_same], hdx, ?_⟩
    rw [del_turn hne ha]
    have st := Step.fresh (o := .xd [(f1, v1)]) R1 hdx
    have y1 := x1.rep hcell
    exact G1 (.ref C) (some dx) σ μ1 _ st (E1.step R1 st) ⟨C, hm, rfl, [v1], upd_same, rfl, RepL.cons (st.rep R1 y1) RepL.nil⟩
  · exact G1.elim
end
end Ev
/-! Ev40: the facts that a raise of Ev39 leans on, from the run of the head. -/
namespace Ev
open PySem PySem.Spec PyProof.Rows L2
section
variable {K : PySem.W.Frag} {mg : Str → Option Value}
theorem oxB_ok {x : Str} (h : oxB K x = true) : OexC K (He.ga K x) ∧ PySem.W.findIn K (.ref (He.ga K x)) "__init__" = some (some (.ref (He.ma K (He.ga K x) "__init__"))) ∧ PySem.W.typeIn K (.ref (He.ma K (He.ga K x) "__init__")) = some (.type "function") := by
  unfold oxB at h
  simp only [Bool.and_eq_true] at h
  obtain ⟨q, h1, h2, h3, h4, h5, h6⟩ := h
  refine ⟨⟨?_, He.eqO_ok h1, of_decide_eq_true h2, of_decide_eq_true h3, h4⟩, He.eqO_ok h5, of_decide_eq_true h6⟩
  split at q
  · rename_i dd cd sl ho
    split at q
    · rename_i C' bm k0 k1 k2 k3 n k5 hm hs
      simp only [Bool.and_eq_true, beq_iff_eq, Bool.not_eq_true'] at q
      obtain ⟨⟨⟨⟨rfl, rfl⟩, hdel⟩, hdc⟩, ht⟩ := q
      obtain ⟨nm, bs, mro, ns, qn, hd, sn, sub, ab, col, del⟩ := cd
      dsimp only at hm hdel hdc
      subst hm hdel hdc
      have hsl : sl = #[k0, k1, k2, k3, some (.builtin "ValueError.__new__"), k5] := by
        obtain ⟨l⟩ := sl
        simp only at hs
        rw [hs]
      subst hsl
      exact ⟨nm, qn, ns, bs, bm, sn, sub, ab, col, dd, k0, k1, k2, k3, k5, ho, ht⟩
    · cases q
  · cases q
theorem bsB_ok {x : Str} (h : bsB K x = true) (hm : mg x = some (.ref (He.ga K x))) : BaseT K mg x := by
  unfold bsB at h
  simp only [Bool.and_eq_true] at h
  obtain ⟨h1, h2, h3⟩ := h
  refine ⟨⟨He.ga K x, hm, He.eqO_ok h1, h2, ?_⟩⟩
  split at h3
  · rename_i n e
    rw [beq_iff_eq] at h3
    subst h3
    exact e
  · cases h3
end
/-- as the defs of a law are told of it -/
structure XI2 (P : Program) (w : World) (K : PySem.W.Frag) (mg : Str → Option Value) (base : Heap) (x f1 f2 : Str) : Prop where
  ex : ∃ (C fI : Addr) (fd : FuncData) (ps : List Str), mg x = some (.ref C) ∧ OexC K C ∧ PySem.W.findIn K (.ref C) "__init__" = some (some (.ref fI)) ∧ PySem.W.typeIn K (.ref fI) = some (.type "function") ∧
    PySem.W.findIn K (.ref C) f1 = some none ∧ PySem.W.findIn K (.ref C) f2 = some none ∧ Binds K fd ps [] ∧ FnOk P w K mg base CX0 1 fI fd ps (spI2 K f1 f2)
structure XI1 (P : Program) (w : World) (K : PySem.W.Frag) (mg : Str → Option Value) (base : Heap) (x f1 : Str) : Prop where
  ex : ∃ (C fI : Addr) (fd : FuncData) (ps : List Str), mg x = some (.ref C) ∧ OexC K C ∧ PySem.W.findIn K (.ref C) "__init__" = some (some (.ref fI)) ∧ PySem.W.typeIn K (.ref fI) = some (.type "function") ∧
    PySem.W.findIn K (.ref C) f1 = some none ∧ Binds K fd ps [] ∧ FnOk P w K mg base CX0 1 fI fd ps (spI1 K f1)
theorem XI2.ok {X : Cx} {x f1 f2 : Str} (h : XI2 X.prog X.w X.K X.mg X.base x f1 f2) : ExcI2 X x f1 f2 := ⟨h.ex⟩
theorem XI1.ok {X : Cx} {x f1 : Str} (h : XI1 X.prog X.w X.K X.mg X.base x f1) : ExcI1 X x f1 := ⟨h.ex⟩
section
variable {P : Program} {w : World} {K : PySem.W.Frag} {mg : Str → Option Value} {base : Heap}
theorem xi2_mk {x f1 f2 : Str} {fI : Addr} {fd : FuncData} {ps : List Str} (hm : mg x = some (.ref (He.ga K x))) (ho : oxB K x = true) (hf : He.ma K (He.ga K x) "__init__" = fI) (n1 : (He.Fa.noat x f1).ok K = true) (n2 : (He.Fa.noat x f2).ok K = true) (hb : Binds K fd ps []) (Fk : FnOk P w K mg base CX0 1 fI fd ps (spI2 K f1 f2)) : XI2 P w K mg base x f1 f2 := by
  obtain ⟨T, h1, h2⟩ := oxB_ok ho
  subst hf
  exact ⟨⟨_, _, fd, ps, hm, T, h1, h2, He.noat_ok n1, He.noat_ok n2, hb, Fk⟩⟩
theorem xi1_mk {x f1 : Str} {fI : Addr} {fd : FuncData} {ps : List Str} (hm : mg x = some (.ref (He.ga K x))) (ho : oxB K x = true) (hf : He.ma K (He.ga K x) "__init__" = fI) (n1 : (He.Fa.noat x f1).ok K = true) (hb : Binds K fd ps []) (Fk : FnOk P w K mg base CX0 1 fI fd ps (spI1 K f1)) : XI1 P w K mg base x f1 := by
  obtain ⟨T, h1, h2⟩ := oxB_ok ho
  subst hf
  exact ⟨⟨_, _, fd, ps, hm, T, h1, h2, He.noat_ok n1, hb, Fk⟩⟩
end
section
variable {ρ : Env'} {S : Store} {x f1 f2 : Str} {m1 m2 : M D}
@[simp] theorem x_raise2 : sRaise2 x f1 f2 m1 m2 ρ S = (m1 ρ S).s ρ fun d1 S1 => (m2 ρ S1).s ρ fun d2 S2 => if d1.cell? = none ∧ d2.cell? = none then .exc x [f2, f1] [d2, d1] ρ S2 else .fail := (rfl)
@[simp] theorem x_raise1 : sRaise1 x f1 m1 ρ S = (m1 ρ S).s ρ fun d1 S1 => if d1.cell? = none then .exc x [f1] [d1] ρ S1 else .fail := (rfl)
end
end Ev
/-! Ev41: any, all of a list while an exception is handled. -/
namespace PySem
open PySem.Spec PyProof.Rows HotX
section
variable {prog : Program} {w : World} {A : Around} {E : Value → Shared → Prop} {s : Shared}
theorem wpAny_pyNext_list_end_hot {it l x1 : Addr} {i : Nat} {items : Array Value} {Q : Option Value → Shared → Prop} (hot : HotAt A x1 s.heap) (hne : x1 ≠ it)
    (hit : s.heap.IsListIter it l i) (hl : s.heap.IsList l items) (hx : items[i]? = none)
    (hQ : ∀ h', (∀ b o, b ≠ it → s.heap.get? b = some o → h'.get? b = some o) → Q none { s with heap := h' }) : wpAny (model prog w) A (pyNext (.ref it)) Q E s := by
  obtain ⟨hh, o1, vs1, h1, d1, c1⟩ := hot
  obtain ⟨o, ho, hc, hd⟩ := id hit
  obtain ⟨ol, hol, _, nl, hdl⟩ := hl
  unfold pyNext
  refine wpAny_bind (wpAny_attempt (wpAny_callSpecial?_slot (name := Str.ofString "__next__") hit.typeIs slot_listiter_next
    (wpAny_call_entry slot_listiter_next hit.typeIs entry_listiter_next ?_ (args_listiter_next _))))
  show wpAny _ _ (field (.ref it) 0 >>= _) _ _ s
  refine wpAny_bind (wpAny_field ho hd (x := .ref l) rfl ?_)
  show wpAny _ _ (if (Value.ref l == Value.none) = true then _ else _) _ _ s
  rw [if_neg (show ¬ ((Value.ref l == Value.none) = true) from Bool.false_ne_true)]
  show wpAny _ _ (field (.ref it) 1 >>= _) _ _ s
  refine wpAny_bind (wpAny_field ho hd (x := .int i 0) rfl ?_)
  show wpAny _ _ (seqItems? (.ref l) >>= _) _ _ s
  refine wpAny_bind (wpAny_seqItems hol hdl ?_)
  simp only [Int.toNat_natCast, hx]
  refine wpAny_bind (wpAny_rule (wpAny_bind (wpAny_setField ho hd (by simp) ?_)))
  show wpAny _ _ (newExc (.type "StopIteration") [] >>= _) _ _ _
  refine wpAny_bind ?_
  simp only [newExc, newTuple]
  refine wpAny_bind (wpAny_newObj_type ?_ (by size_fits))
  refine wpAny_bind (m := firstArgMember _ _) (wpAny_of_eq (a := Value.none) (by first | rfl | (simp only [firstArgMember]; rfl)) ?_)
  refine wpAny_newObj_type ?_ (by size_fits)
  have keep := Heap.SameBut.update (h := s.heap) (a := it) (f := Obj.mapFields (·.setIfInBounds 0 .none))
  refine raiseNew_hot (x1 := x1) ⟨hh, o1, vs1, Heap.get?_push_of_some _ (Heap.get?_push_of_some _ (keep.extBut x1 o1 hne h1)), d1, c1⟩ ?_ (Heap.get?_push_size _ rfl) rfl (by first | (simp; done) | (simp; omega) | (simp only [Array.size_append]; simp; omega)) ?_
  · exact Nat.ne_of_lt (Heap.lt_size (Heap.get?_push_of_some _ (keep.extBut x1 o1 hne h1)))
  refine wpAny_bind (wpAny_isInstance (T := "StopIteration") (b := true) ⟨_, Heap.get?_update_self _ (Heap.get?_push_size _ rfl) rfl, rfl⟩ isSubtype_stop ?_)
  refine wpAny_pure (hQ _ fun b o hb e => ?_)
  have e1 := keep.extBut b o hb e
  rw [Heap.get?_update_other _ _ (Nat.ne_of_gt (Heap.lt_size (Heap.get?_push_of_some _ e1)))]
  exact Heap.get?_push_of_some _ (Heap.get?_push_of_some _ e1)
theorem Walks.listH {x1 : Addr} (hh : A.handled = some (.ref x1)) (I ax : Addr) (hne : ax ≠ I) (hx : x1 ≠ I) (items : Array Value) :
    Walks prog w A I [I, ax, x1] [I] items.size (fun i v => items[i]? = some v) (fun i h => (h.IsListIter I ax i ∧ h.IsList ax items) ∧ ∃ (o : Obj) (vs : Array Value), h.get? x1 = some o ∧ o.data = .fields vs ∧ vs[2]? = some .none) where
  sub := fun b hb => by simp at hb; simp [hb]
  frame := fun _ _ _ st hk => ⟨⟨st.1.1.at fun o e => hk I (by simp) o e, st.1.2.at fun o e => hk ax (by simp) o e⟩, by
    obtain ⟨o, vs, h1, h2, h3⟩ := st.2
    exact ⟨o, vs, hk x1 (by simp) o h1, h2, h3⟩⟩
  item := fun i s Q E hi st hQ => by
    refine wpAny_pyNext_list_item st.1.1 st.1.2 (x := items[i]) (by simp [hi]) fun h' hit' hs' => ?_
    obtain ⟨o, vs, h1, h2, h3⟩ := st.2
    exact hQ _ h' s.toks (by simp [hi]) ⟨⟨hit', st.1.2.extBut hs'.extBut hne⟩, o, vs, hs'.extBut x1 o hx h1, h2, h3⟩ fun b o hb e => hs'.extBut b o (fun h => hb (by simp [h])) e
  done := fun s Q E st hQ => wpAny_pyNext_list_end_hot ⟨hh, st.2⟩ hx st.1.1 st.1.2 (by simp) fun h' he' => hQ h' s.toks fun b o hb e => he' b o (fun h => hb (by simp [h])) e
  self := fun _ _ _ _ st hQ => wpAny_pyIter_listiter st.1.1 hQ
end
end PySem
namespace Ev
open PySem PySem.Spec PyProof.Rows L2 HotX
section
variable {X : Cx} {W : WX}
theorem cr_anyH (hc : L2H.HotC X) : CallR X (.builtin "any") (rAny X.K) := by
  intro pins s σ H vs us Q I r h
  obtain ⟨a, bs, rfl, hs, q⟩ := h
  obtain ⟨its, rv, hl, _⟩ := I.list hs
  rw [Vals.ref1 r]
  have hb := rv.bls
  obtain ⟨x1, hh, o1, vs1, g1, d1, c1⟩ := hc.at I
  refine call_any_walk (iter_any hl.isList fun s₂ e2 st hne => ?_)
  subst e2
  refine ⟨_, _, _, _, _, _, _, rfl, Walks.listH (A := X.A.in1) (x1 := x1) hh _ a hne (Nat.ne_of_lt (Heap.lt_size g1)) its.toArray, ⟨st, o1, vs1, Heap.get?_push_of_some _ g1, d1, c1⟩, truth_bools hb, fun h' tk hk => ?_⟩
  refine ⟨.bl _, H, I.kept fun b o eo => hk b o (fun hmem => ?_) (Heap.get?_push_of_some _ eo), ?_, q⟩
  · rcases List.mem_cons.mp hmem with e1 | hmem
    · exact absurd (e1 ▸ Heap.lt_size eo) (Nat.lt_irrefl _)
    · cases hmem
  · show Value.bool _ = Value.bool _
    rw [← L2.any_range, hb, List.size_toArray, List.length_map]
theorem blt_anyH (hc : L2H.HotC X) : CallD X (Blt.any).val (bltD .any) := by
  refine CallD.one (cr_anyH hc) fun H μ S H0 d v res R y eg => ?_
  unfold anyD at eg
  split at eg
  · rename_i ns h
    cases eg
    obtain ⟨a, rfl, q⟩ := boolsL_ok R y h
    exact ⟨a, ns, rfl, q, Step.refl R, res_bl⟩
  · cases eg
end
end Ev
/-! Ev42: <, min of a list, list.index of alike plain data (tuples of tuples). -/
namespace Ev
open PySem PySem.Spec PyProof.Rows L2
open Classical in
/-- plain, and alike to one another -/
def Alk (ds : List D) : Prop := (∃ n, n ≤ 60 ∧ plL false n ds = true) ∧ PySem.W.AlikeAll (toPL ds)
mutual
theorem toP_inj : ∀ (d e : D) (n m : Nat), d.pl false n = true → e.pl false m = true → toP d = toP e → d = e
  | .non, e, n, m, h1, h2, h => by
    cases e <;> first | rfl | (unfold D.pl at h2; cases h2; done) | (unfold toP at h; cases h; done)
  | .bl i, e, n, m, h1, h2, h => by
    cases e <;> first | (unfold toP at h; cases h; done) | (unfold toP at h; injection h with h; rw [h]) | (unfold D.pl at h2; cases h2; done)
  | .int i, e, n, m, h1, h2, h => by
    cases e <;> first | (unfold toP at h; cases h; done) | (unfold toP at h; injection h with h; rw [h]) | (unfold D.pl at h2; cases h2; done)
  | .str i, e, n, m, h1, h2, h => by
    cases e <;> first | (unfold toP at h; cases h; done) | (unfold toP at h; injection h with h; rw [h]) | (unfold D.pl at h2; cases h2; done)
  | .tup ds, e, n, m, h1, h2, h => by
    cases e <;> first
      | (unfold toP at h; cases h; done)
      | (rename_i es
         cases n with
         | zero => unfold D.pl at h1; cases h1
         | succ n =>
           cases m with
           | zero => unfold D.pl at h2; cases h2
           | succ m =>
             unfold D.pl at h1 h2
             unfold toP at h
             injection h with h
             rw [toPL_inj ds es n m h1 h2 h])
      | (unfold D.pl at h2; cases h2; done)
  | .ptup _, e, n, m, h1, _, _ => by unfold D.pl at h1; cases h1
  | .ref _, e, n, m, h1, _, _ => by unfold D.pl at h1; cases h1
  | .fro _, e, n, m, h1, _, _ => by unfold D.pl at h1; cases h1
  | .lst _, e, n, m, h1, _, _ => by unfold D.pl at h1; cases h1
  | .obj _ _ _, e, n, m, h1, _, _ => by unfold D.pl at h1; cases h1
  | .dk _ _, e, n, m, h1, _, _ => by unfold D.pl at h1; cases h1
  | .dt _ _, e, n, m, h1, _, _ => by unfold D.pl at h1; cases h1
  | .exn _ _ _ _, e, n, m, h1, _, _ => by unfold D.pl at h1; cases h1
theorem toPL_inj : ∀ (ds es : List D) (n m : Nat), plL false n ds = true → plL false m es = true → toPL ds = toPL es → ds = es
  | [], [], _, _, _, _, _ => rfl
  | [], _ :: _, _, _, _, _, h => by unfold toPL at h; cases h
  | _ :: _, [], _, _, _, _, h => by unfold toPL at h; cases h
  | d :: ds, e :: es, n, m, h1, h2, h => by
    unfold plL at h1 h2
    rw [Bool.and_eq_true] at h1 h2
    unfold toPL at h
    injection h with h3 h4
    rw [toP_inj d e n m h1.1 h2.1 h3, toPL_inj ds es n m h1.2 h2.2 h4]
end
mutual
theorem alike_eq : ∀ (x y : PyData), PySem.W.alike x y = true → PyData.eqv x y = true → x = y
  | .none, y, h, e => by cases y <;> first | rfl | (unfold PySem.W.alike at h; cases h)
  | .bool a, y, h, e => by
    cases y <;> first | (unfold PySem.W.alike at h; cases h; done) | skip
    unfold PyData.eqv at e; simp at e; rw [e]
  | .int a, y, h, e => by
    cases y <;> first | (unfold PySem.W.alike at h; cases h; done) | skip
    unfold PyData.eqv at e; simp at e; rw [e]
  | .str a, y, h, e => by
    cases y <;> first | (unfold PySem.W.alike at h; cases h; done) | skip
    unfold PyData.eqv at e; simp at e; rw [e]
  | .list xs, y, h, e => by
    cases y <;> first | (unfold PySem.W.alike at h; cases h; done) | skip
    unfold PySem.W.alike at h
    unfold PyData.eqv at e
    rw [alikeL_eq _ _ h e]
  | .tuple xs, y, h, e => by
    cases y <;> first | (unfold PySem.W.alike at h; cases h; done) | skip
    unfold PySem.W.alike at h
    unfold PyData.eqv at e
    rw [alikeL_eq _ _ h e]
  | .dict _, y, h, _ => by cases y <;> (unfold PySem.W.alike at h; cases h)
theorem alikeL_eq : ∀ (xs ys : List PyData), PySem.W.alikeAll xs ys = true → PyData.eqvAll xs ys = true → xs = ys
  | [], [], _, _ => rfl
  | [], _ :: _, _, e => by unfold PyData.eqvAll at e; cases e
  | _ :: _, [], _, e => by unfold PyData.eqvAll at e; cases e
  | x :: xs, y :: ys, h, e => by
    obtain ⟨h1, h2⟩ := PySem.W.alike_all_cons h
    rw [PySem.W.eqv_all_cons, Bool.and_eq_true] at e
    rw [alike_eq x y h1 e.1, alikeL_eq xs ys h2 e.2]
end
section
variable {K : PySem.W.Frag} {mg : Str → Option Value} {μ : List Addr} {H0 H : Hp} {S : Store}
theorem pl_dp (R : Rel K mg μ S H) {d : D} {n : Nat} {v : V} (hn : n ≤ 60) (h : d.pl false n = true) (x : ResOk K mg μ H0 H d v) : Dp K H v (toP d) := py_ok R 66 d _ v (py_pl d n 66 (by omega) h) x
theorem pl_dpL (R : Rel K mg μ S H) {ds : List D} {n : Nat} {vs : List V} (hn : n ≤ 60) (h : plL false n ds = true) (r : RepL K μ H ds vs) : DpAll K H vs (toPL ds) :=
  pyAll (S := S) (fun d p v e y => py_ok R 66 d p v e (ResOk.plain (H0 := H) y)) ds _ vs (py_plL ds n 66 (by omega) h) r
end
open Classical in
/-- d < e -/
noncomputable def ltN (d e : D) (S : Store) : Option D := if Alk [d, e] then some (.bl (PySem.W.dataLt (toP d) (toP e))) else none
/-- the first of the least -/
def mnF (x : D) (xs : List D) : D := xs.foldl (fun a y => if PySem.W.dataLt (toP y) (toP a) then y else a) x
theorem mnF_mem : ∀ (xs : List D) (x : D), mnF x xs ∈ x :: xs
  | [], x => by unfold mnF; simp
  | y :: ys, x => by
    have := mnF_mem ys (if PySem.W.dataLt (toP y) (toP x) then y else x)
    have e : mnF x (y :: ys) = mnF (if PySem.W.dataLt (toP y) (toP x) then y else x) ys := rfl
    rw [e]
    rcases List.mem_cons.mp this with h | h
    · rw [h]; split <;> simp
    · exact List.mem_cons_of_mem _ (List.mem_cons_of_mem _ h)
theorem mnF_toP : ∀ (xs : List D) (x : D), toP (mnF x xs) = PySem.W.minD (toP x) (toPL xs)
  | [], x => by unfold mnF toPL PySem.W.minD; rfl
  | y :: ys, x => by
    have := mnF_toP ys (if PySem.W.dataLt (toP y) (toP x) then y else x)
    have e : mnF x (y :: ys) = mnF (if PySem.W.dataLt (toP y) (toP x) then y else x) ys := rfl
    rw [e, this, show toPL (y :: ys) = toP y :: toPL ys from rfl]
    unfold PySem.W.minD
    rw [List.foldl_cons]
    split <;> rfl
open Classical in
noncomputable def minN (ds : List D) (S : Store) : Option D := match ds with
  | [d] => (match seqL S d with
    | some (x :: xs) => if Alk (x :: xs) then some (mnF x xs) else none
    | _ => none)
  | _ => none
open Classical in
/-- xs.index(e) -/
noncomputable def idxN (o : Option (List D)) (e : D) : Option D := match o with
  | some ds => if Alk (e :: ds) ∧ toP e ∈ toPL ds ∧ ds.length ≤ 100000 then some (.int ((toPL ds).idxOf (toP e) : Nat)) else none
  | none => none
section
variable {X : Cx}
theorem ltN_ok (hu : X.A.units + 64 < cLine) : OpD X (compareOp .Lt) ltN := by
  intro pins s σ H μ S H0 d e v w u1 u2 res I R x1 x2 r1 r2 eg
  unfold ltN at eg
  split at eg
  · rename_i hA
    cases eg
    obtain ⟨⟨n, hn, hp⟩, ha, hne⟩ := hA
    unfold plL at hp
    rw [Bool.and_eq_true] at hp
    have p1 := hp.1
    have p2 : e.pl false n = true := plL_mem.mp hp.2 e (by simp)
    obtain ⟨as, q1⟩ := Dp.reads I _ _ _ (pl_dp R hn p1 x1) r1
    obtain ⟨bs, q2⟩ := Dp.reads I _ _ _ (pl_dp R hn p2 x2) r2
    have dd := (shp_pl d n p1).2
    exact PySem.W.lt_data q1 q2 (ha _ (by unfold toPL; simp) _ (by unfold toPL toPL; simp)) (hne _ (by unfold toPL; simp)) (by omega) ⟨.bl _, H, I, rfl, Step.refl R, res_bl⟩
  · cases eg
theorem minN_ok (hc : X.calm = true) (hu : X.A.units + 64 < cLine) : CallD X (.builtin "min") minN := by
  intro pins s σ H μ S H0 ds vs us res I R x r eg
  unfold minN at eg
  split at eg
  · rename_i d
    split at eg
    · rename_i z zs hz
      split at eg
      · rename_i hA
        cases eg
        obtain ⟨⟨n, hn, hp⟩, ha⟩ := hA
        obtain ⟨v, rfl, y⟩ := resL_one x
        obtain ⟨a, ws, rfl, hs, rl⟩ := seqL_ok R y hz
        obtain ⟨u, rfl, ru⟩ := r.one
        cases ru
        obtain ⟨its, rv, pl, _⟩ := I.list hs
        obtain ⟨as, hr⟩ := Dp.readsAll I _ _ _ (pl_dpL R hn hp rl) rv
        have dd := (shp_plL (z :: zs) n hp).2
        have ea : toPL (z :: zs) = toP z :: toPL zs := rfl
        rw [ea] at ha hr dd
        refine PySem.W.min_list_data (I.ok.hd hc) pl.isList (by simpa using hr) ha (by omega) fun i u' h' tk bs hi rd hk => ?_
        have hi' : its[i]? = some u' := by simpa using hi
        have hlen := rv.length
        have hlen2 := rl.length
        have hlt := (List.getElem?_eq_some_iff.mp hi').1
        obtain ⟨w, hw⟩ : ∃ w, ws[i]? = some w := ⟨_, List.getElem?_eq_getElem (by omega)⟩
        obtain ⟨d', hd'⟩ : ∃ d', (z :: zs)[i]? = some d' := ⟨_, List.getElem?_eq_getElem (by omega)⟩
        obtain ⟨w', hw', rw'⟩ := rl.get hd'
        rw [hw] at hw'
        cases hw'
        obtain ⟨u'', hu'', ru''⟩ := rv.get hw
        rw [hi'] at hu''
        cases hu''
        have I2 : Inv X pins σ H { s with heap := h', toks := tk } := I.kept (t' := tk) hk
        have hdm := List.mem_of_getElem? hd'
        have pd := plL_mem.mp hp d' hdm
        obtain ⟨cs, rd2⟩ := Dp.reads I2 _ _ _ (pl_dp (H0 := H) R hn pd (ResOk.plain rw')) ru''
        have mem : ∀ e ∈ z :: zs, toP e ∈ toP z :: toPL zs := fun e he => by
          rw [← ea, toPL_map]; exact List.mem_map_of_mem he
        have em : PySem.W.minD (toP z) (toPL zs) ∈ toP z :: toPL zs := by rw [← mnF_toP]; exact mem _ (mnF_mem zs z)
        have e1 := PySem.W.alike_unique _ _ _ _ _ (ha.1 _ (mem d' hdm) _ em) rd2 rd
        rw [← mnF_toP] at e1
        have e2 := toP_inj d' (mnF z zs) n n pd (plL_mem.mp hp _ (mnF_mem zs z)) e1
        rw [← e2]
        exact ⟨w, H, I2, ru'', Step.refl R, ResOk.plain rw'⟩
      · cases eg
    · cases eg
  · cases eg
def rIdxN (K : PySem.W.Frag) (u : Nat) : V → List V → Hp → VK → Prop := open Classical in fun x xs H Q => ∃ (p : Addr) (ys : List V) (k : V) (ps : List PyData) (q : PyData), x = .ref p ∧ xs = [k] ∧ SqL K H p ys ∧ DpAll K H ys ps ∧ Dp K H k q ∧ (∀ y ∈ ps, PySem.W.alike y q = true) ∧ q.depth ≤ u ∧ ps.length ≤ 100000 ∧ q ∈ ps ∧ Q (.int (ps.idxOf q : Nat)) H
theorem mt_indexN (hu : X.A.units + 64 < cLine) : MtR X "list.index" (rIdxN X.K 60) := by
  classical
  intro pins s σ H x xs v us Q I rx rxs h
  obtain ⟨p, ys, k, ps, q, rfl, rfl, hs, hps, hq, hal, hd, hl, hm, qq⟩ := h
  cases rx
  obtain ⟨u, rfl, ru⟩ := rxs.one
  obtain ⟨its, rv, pl, hz⟩ := I.list hs
  obtain ⟨as, hr⟩ := Dp.readsAll I _ _ _ hps rv
  obtain ⟨bs, hk⟩ := Dp.reads I _ _ _ hq ru
  have hlen : its.length = ps.length := by have := PySem.W.readsAll_len (vs := its.toArray) (by simpa using hr); simpa using this
  refine SeqAt.call_list_index pl.isList ⟨hlen, fun j h1 h2 => ?_⟩ (Nat.le_trans hl (by decide)) hm ?_
  · obtain ⟨cs, rj, _, hmj, _⟩ := PySem.W.readsAll_at hr j _ (List.getElem?_eq_getElem h1)
    have ej : ps.getD j .none = ps[j] := by rw [List.getD_eq_getElem?_getD, List.getElem?_eq_getElem h2]; rfl
    rw [ej] at rj hmj
    have ha := hal _ hmj
    have eb : PyData.eqv ps[j] q = decide (ps[j] = q) := by
      cases hb : PyData.eqv ps[j] q with
      | true => rw [decide_eq_true (alike_eq _ _ ha hb)]
      | false =>
        rw [decide_eq_false (fun e => ?_)]
        rw [e] at hb ha
        rw [PySem.W.eqv_refl_alike _ ha] at hb
        cases hb
    rw [← eb]
    exact PySem.W.eqAt_alike _ _ _ _ _ _ _ _ rj hk ha (by show X.A.units + 1 + _ < cLine; omega)
  · exact ⟨.int (ps.idxOf q : Nat), H, I.tok _, ⟨_, rfl⟩, qq⟩
end
noncomputable def mIdxN (mo me : M D) : M D := fun ρ S => (mo ρ S).bind fun o S1 => if (seqL S1 o).isSome = true then (me ρ S1).bind fun e S2 => Out.of (idxN (seqL S2 o) e) S2 else .fail
section
variable {X : Cx} {W : WX}
theorem ev_ltN {a b : Expr} {pos : Pos} {ma mb : M D} (hu : X.A.units + 64 < cLine) (ha : EvE X W a ma) (hb : EvE X W b mb) (h1 : behindInMarks .Lt b = false) : EvE X W (.Compare a [.Lt] [b] pos) (mBin ltN ma mb) :=
  ⟨fun pins s σ H μ S ρ I R E F => wpAny_Compare1 (bin_run ha hb (ltN_ok hu) I R E F) h1⟩
theorem evt_ltN {a b : Expr} {pos : Pos} {ma mb : M D} (hu : X.A.units + 64 < cLine) (ha : EvE X W a ma) (hb : EvE X W b mb) (h1 : behindInMarks .Lt b = false) : EvT X W (.Compare a [.Lt] [b] pos) (mTru (mBin ltN ma mb)) := by
  refine ⟨fun pins s σ H μ S ρ I R E F => ?_⟩
  refine wpAny_isTrue_Compare1 (thn (bin_run ha hb (ltN_ok hu) I R E F.left) fun v s1 h1 => thn h1 fun u s2 h2 => thn h2 fun c s3 ⟨d, S', w, μ', H', e, I', r, st, x⟩ => ?_) h1
  have F1 : Fine X.K X.mg W μ' H' σ (Out.of (truD S' d) S') := Fine.right (f := fun d S1 => Out.of (truD S1 d) S1) R st F e
  obtain ⟨k, ek⟩ := fine_of F1
  refine thn (tru_ok pins s3 σ H' w c (fun b H2 => b = k ∧ H2 = H') I' r ⟨k, truD_ok st.rel x ek, rfl, rfl⟩) fun b s4 ⟨H2, I2, e1, e2⟩ => ?_
  subst e1; subst e2
  exact ⟨S', μ', H2, by unfold mTru; rw [e, bind_ok, ek]; rfl, I2, st⟩
theorem ev_indexN {o e : Expr} {apos pos : Pos} {mo me : M D} (hu : X.A.units + 64 < cLine) (ho : EvE X W o mo) (he : EvE X W e me) (hb : notCall0 o = true) (hs : notStar e = true) (hline : (apos.endLine == pos.line) = true) :
    EvE X W (.Call (.Attribute o "index" apos) [e] [] pos) (mIdxN mo me) := by
  refine EvE.of_pe (pe_bm (T := "list") (id := "list.index") PySem.F.plainAttrs_list PySem.F.slot_list_index PySem.F.type_list_index (mt_indexN hu) ho.pe (pa_one he hs) (base_of hb _) (by rw [star_of hs]; rfl) hline (star_of hs) rfl) fun σ H μ S ρ R E F => ?_
  unfold mIdxN at F ⊢
  refine tm1 R E F fun d S1 v μ1 H1 e1 st x R1 E1 F1 => ?_
  rw [e1, bind_ok]
  split at F1
  · rename_i hl
    obtain ⟨ds0, h0⟩ := Option.isSome_iff_exists.mp hl
    obtain ⟨a0, vs0, ev, hq0, _⟩ := seqL_ok R1 x h0
    subst ev
    refine ⟨.inl ⟨rfl, _, hq0⟩, ?_⟩
    simp only [hl, if_true]
    refine tm1 R1 E1 F1 fun d2 S2 w μ2 H2 e2 st2 x2 R2 E2 F2 => ?_
    rw [e2, bind_ok]
    obtain ⟨r, er⟩ := fine_of F2
    have er0 := er
    unfold idxN at er
    split at er
    · rename_i ds h2
      split at er
      · rename_i hA
        cases er
        obtain ⟨⟨⟨n, hn, hp⟩, hal, _⟩, hm, hz⟩ := hA
        unfold plL at hp
        rw [Bool.and_eq_true] at hp
        obtain ⟨a, vs, ea, hq, rl⟩ := seqL_ok R2 (x.step R1 st2) h2
        cases ea
        have dd := (shp_pl d2 n hp.1).2
        refine ⟨a0, _, _, toPL ds, toP d2, rfl, rfl, hq, pl_dpL R2 hn hp.2 rl, pl_dp R2 hn hp.1 x2, fun y hy => hal y ?_ _ ?_, by omega, by rw [toPL_map, List.length_map]; exact hz, hm, _, S2, μ2, by rw [er0]; rfl, st.trans R st2, ResOk.plain (by unfold Rep; rfl)⟩
        · show y ∈ toP d2 :: toPL ds
          exact List.mem_cons_of_mem _ hy
        · show toP d2 ∈ toP d2 :: toPL ds
          simp
      · cases er
    · cases er
  · exact F1.elim
end
section
variable {ρ : Env'} {S : Store} {a b : M D}
@[simp] theorem x_idxN : mIdxN a b ρ S = (a ρ S).bind fun o S1 => if (seqL S1 o).isSome = true then (b ρ S1).bind fun e S2 => Out.of (idxN (seqL S2 o) e) S2 else .fail := (rfl)
end
end Ev
/-! Ev43: list(zip(xs, ys)) of two lists. -/
namespace Ev
open PySem PySem.W PySem.Calls PySem.Spec PyProof.Rows
theorem zip_no_len : typeLookup (.type "zip") "__len__" = pure none := by rw [typeLookup_type, builtinLookup_eq_fast]; kernel_rfl
theorem zip_no_hint : typeLookup (.type "zip") "__length_hint__" = pure none := by rw [typeLookup_type, builtinLookup_eq_fast]; kernel_rfl
/-- a zip over two lists, i pairs given -/
def ZlSt (z TI TO i1 i2 l1 l2 S : Addr) (xs ys : Array Value) (i : Nat) (h : Heap) : Prop :=
  IsPair h TI (.ref i1) (.ref i2) ∧ h.IsListIter i1 l1 i ∧ h.IsListIter i2 l2 i ∧ h.IsList l1 xs ∧ h.IsList l2 ys ∧
    ((IsZip h z TI TO .none ∧ ∃ a b, IsPair h TO a b) ∨ ∃ T f oT, IsZipHeld h z TI TO T f ∧ h.get? T = some oT ∧ T ≠ z ∧ T ≠ i1 ∧ T ≠ i2 ∧ T ≠ S)
/-- the addresses as hold the pairs -/
structure ZlG (xs ys : Array Value) (lo : Addr) (h : Heap) (as : List Addr) : Prop where
  rise : as.Pairwise (· < ·)
  above : ∀ a ∈ as, lo < a
  pairs : ∀ (j : Nat) (a : Addr), as[j]? = some a → ∃ x y, xs[j]? = some x ∧ ys[j]? = some y ∧ IsPair h a x y
theorem ZlG.there {xs ys : Array Value} {lo : Addr} {h : Heap} {as : List Addr} (g : ZlG xs ys lo h as) {a : Addr} (ha : a ∈ as) : a < h.objs.size := by
  obtain ⟨j, hj⟩ := List.mem_iff_getElem?.mp ha
  obtain ⟨_, _, _, _, e⟩ := g.pairs j a hj
  exact Heap.lt_size e
/-- the cells of the zip lie below the list -/
structure ZlLow (z TI TO i1 i2 l1 l2 S : Nat) : Prop where
  z : z < S
  TI : TI < S
  TO : TO < S
  i1 : i1 < S
  i2 : i2 < S
  l1 : l1 < S
  l2 : l2 < S
section
variable {z TI TO i1 i2 l1 l2 S : Addr} {xs ys : Array Value}
theorem ZlSt.keep {i : Nat} {h₁ h₂ : Heap} (L : ZlLow z TI TO i1 i2 l1 l2 S) (st : ZlSt z TI TO i1 i2 l1 l2 S xs ys i h₁) (hk : ∀ b o, b ≠ S → h₁.get? b = some o → h₂.get? b = some o) : ZlSt z TI TO i1 i2 l1 l2 S xs ys i h₂ := by
  obtain ⟨hTI, h1, h2, hl1, hl2, hz⟩ := st
  refine ⟨hk _ _ (Nat.ne_of_lt L.TI) hTI, h1.at fun o e => hk _ o (Nat.ne_of_lt L.i1) e, h2.at fun o e => hk _ o (Nat.ne_of_lt L.i2) e, hl1.at fun o e => hk _ o (Nat.ne_of_lt L.l1) e, hl2.at fun o e => hk _ o (Nat.ne_of_lt L.l2) e, ?_⟩
  rcases hz with ⟨hz, a, b, hTO⟩ | ⟨T, f, oT, hz, hT, r1, r2, r3, r4⟩
  · exact .inl ⟨hk _ _ (Nat.ne_of_lt L.z) hz, a, b, hk _ _ (Nat.ne_of_lt L.TO) hTO⟩
  · exact .inr ⟨T, f, oT, hk _ _ (Nat.ne_of_lt L.z) hz, hk _ _ r4 hT, r1, r2, r3, r4⟩
variable {prog : Program} {w : World} {A : Around} {E : Value → Shared → Prop} {s : Shared}
theorem zl_item {i : Nat} {x y : Value} {Q : Option Value → Shared → Prop} (D : ZipApart z TI TO i1 i2 l1 l2) (st : ZlSt z TI TO i1 i2 l1 l2 S xs ys i s.heap) (hS : S < s.heap.objs.size) (hx : xs[i]? = some x) (hy : ys[i]? = some y)
    (hQ : ∀ h', ZlSt z TI TO i1 i2 l1 l2 S xs ys (i + 1) h' → IsPair h' s.heap.objs.size x y → h'.objs.size = s.heap.objs.size + 1 → (∀ c o, c ≠ z → c ≠ TO → c ≠ i1 → c ≠ i2 → s.heap.get? c = some o → h'.get? c = some o) → Q (some (.ref s.heap.objs.size)) { s with heap := h' }) :
    wpAny (model prog w) A (pyNext (.ref z)) Q E s := by
  obtain ⟨hTI, h1, h2, hl1, hl2, hz⟩ := st
  have lt : ∀ {c o}, s.heap.get? c = some o → s.heap.objs.size ≠ c := fun e => Nat.ne_of_gt (Heap.lt_size e)
  have n1 : s.heap.objs.size ≠ i1 := let ⟨_, e, _⟩ := h1; lt e
  have n2 : s.heap.objs.size ≠ i2 := let ⟨_, e, _⟩ := h2; lt e
  rcases hz with ⟨hz, a, b, hTO⟩ | ⟨T, f, oT, hz, hT, r1, r2, r3, r4⟩
  · refine wpAny_pyNext_zip_item D hz hTI hTO h1 h2 hl1 hl2 hx hy fun h' a1 a2 a3 a4 a5 a6 hk => ?_
    exact hQ h' ⟨hk _ _ D.TIz D.TITO D.TIi1 D.TIi2 hTI, a3, a4, hl1.at fun o e => hk _ o D.l1z D.l1TO D.l1i1 D.l1i2 e, hl2.at fun o e => hk _ o D.l2z D.l2TO D.l2i1 D.l2i2 e,
      .inr ⟨s.heap.objs.size, false, _, a1, a5, lt hz, n1, n2, Nat.ne_of_gt hS⟩⟩ a5 a6 hk
  · refine wpAny_pyNext_zip_item_held D hz hT hTI h1 h2 hl1 hl2 hx hy fun h' a1 a3 a4 a5 a6 hk => ?_
    exact hQ h' ⟨hk _ _ D.TIz D.TIi1 D.TIi2 hTI, a3, a4, hl1.at fun o e => hk _ o D.l1z D.l1i1 D.l1i2 e, hl2.at fun o e => hk _ o D.l2z D.l2i1 D.l2i2 e,
      .inr ⟨T, true, oT, a1, hk _ _ r1 r2 r3 hT, r1, r2, r3, r4⟩⟩ a5 a6 fun c o c1 _ c3 c4 e => hk c o c1 c3 c4 e
theorem zl_done {i : Nat} {Q : Option Value → Shared → Prop} (hh : A.handled = none) (D : ZipApart z TI TO i1 i2 l1 l2) (st : ZlSt z TI TO i1 i2 l1 l2 S xs ys i s.heap) (hend : xs[i]? = none ∨ ys[i]? = none)
    (hQ : ∀ h', (∀ c o, c ≠ z → c ≠ TO → c ≠ i1 → c ≠ i2 → s.heap.get? c = some o → h'.get? c = some o) → Q none { s with heap := h' }) :
    wpAny (model prog w) A (pyNext (.ref z)) Q E s := by
  obtain ⟨hTI, h1, h2, hl1, hl2, hz⟩ := st
  rcases hz with ⟨hz, a, b, hTO⟩ | ⟨T, f, oT, hz, hT, r1, r2, r3, r4⟩
  · exact wpAny_pyNext_zip_end hh D hz hTI hTO h1 h2 hl1 hl2 hend fun h' hk => hQ h' hk
  · exact wpAny_pyNext_zip_end_held hh D hz hT hTI h1 h2 hl1 hl2 hend fun h' hk => hQ h' fun c o c1 _ c3 c4 e => hk c o c1 c3 c4 e
end
section
variable {prog : Program} {w : World} {A : Around} {s : Shared} {R : Result → Shared → Prop} {z TI TO i1 i2 l1 l2 S : Addr} {xs ys : Array Value}
theorem zl_loop (hh : A.handled = none) (D : ZipApart z TI TO i1 i2 l1 l2) (L : ZlLow z TI TO i1 i2 l1 l2 S) (hn : min xs.size ys.size ≤ sizeLine) (res : Value) {h₁ : Heap}
    (hR : ∀ h' tk acc c as, (∀ b o, b ≠ S → b ≠ z → b ≠ TO → b ≠ i1 → b ≠ i2 → h₁.get? b = some o → h'.get? b = some o) → h'.get? S = some { cls := .type "list", dict := none, data := .seq acc c, slots := #[] } → as.length = min xs.size ys.size → ZlG xs ys S h' as →
      acc.toList = as.map Value.ref → R (.ok (.ret res)) { s with heap := h', toks := tk }) :
    ∀ (k i : Nat) (h : Heap) (tk c : Nat) (acc : Array Value) (as : List Addr), min xs.size ys.size - i = k → i ≤ min xs.size ys.size → ZlSt z TI TO i1 i2 l1 l2 S xs ys i h → (∀ b o, b ≠ S → b ≠ z → b ≠ TO → b ≠ i1 → b ≠ i2 → h₁.get? b = some o → h.get? b = some o) →
      h.get? S = some { cls := .type "list", dict := none, data := .seq acc c, slots := #[] } → acc.toList = as.map Value.ref → as.length = i → ZlG xs ys S h as →
      codeAny (model prog w) A (.builtin "list.extend.loop" ⟨[.ref S, .ref z, res], []⟩) R { s with heap := h, toks := tk } := by
  have ne : ∀ {a : Nat}, S < a → a ≠ z ∧ a ≠ TO ∧ a ≠ i1 ∧ a ≠ i2 := fun {a} h => ⟨Nat.ne_of_gt (Nat.lt_trans L.z h), Nat.ne_of_gt (Nat.lt_trans L.TO h), Nat.ne_of_gt (Nat.lt_trans L.i1 h), Nat.ne_of_gt (Nat.lt_trans L.i2 h)⟩
  have Sne : S ≠ z ∧ S ≠ TO ∧ S ≠ i1 ∧ S ≠ i2 := ⟨Nat.ne_of_gt L.z, Nat.ne_of_gt L.TO, Nat.ne_of_gt L.i1, Nat.ne_of_gt L.i2⟩
  intro k
  induction k with
  | zero =>
    intro i h tk c acc as hk hi hst hkeep hS hacc hal hG
    have hin : i = min xs.size ys.size := by omega
    have hend : xs[i]? = none ∨ ys[i]? = none := by
      rcases Nat.le_total xs.size ys.size with q | q
      · exact .inl (Array.getElem?_eq_none (by rw [hin, Nat.min_eq_left q]; exact Nat.le_refl _))
      · exact .inr (Array.getElem?_eq_none (by rw [hin, Nat.min_eq_right q]; exact Nat.le_refl _))
    refine codeAny_builtin PySem.F.entry_extend_loop ?_
    rw [Around.under_plainId PySem.F.plain_extend_loop _]
    show wpAny _ A.in1 (pyNext (.ref z) >>= _) _ _ _
    refine wpAny_bind (zl_done (s := { s with heap := h, toks := tk }) (A := A.in1) hh D hst hend fun h' he => ?_)
    refine wpAny_pure (hR h' tk acc c as (fun b o h1 h2 h3 h4 h5 e => he b o h2 h3 h4 h5 (hkeep b o h1 h2 h3 h4 h5 e)) (he S _ Sne.1 Sne.2.1 Sne.2.2.1 Sne.2.2.2 hS) (by omega) ⟨hG.rise, hG.above, fun j a hj => ?_⟩ hacc)
    obtain ⟨x, y, e1, e2, e3⟩ := hG.pairs j a hj
    obtain ⟨n1, n2, n3, n4⟩ := ne (hG.above a (List.mem_of_getElem? hj))
    exact ⟨x, y, e1, e2, he a _ n1 n2 n3 n4 e3⟩
  | succ k ih =>
    intro i h tk c acc as hk hi hst hkeep hS hacc hal hG
    have hlt : i < min xs.size ys.size := by omega
    have hix : i < xs.size := Nat.lt_of_lt_of_le hlt (Nat.min_le_left ..)
    have hiy : i < ys.size := Nat.lt_of_lt_of_le hlt (Nat.min_le_right ..)
    have ex := Array.getElem?_eq_getElem hix
    have ey := Array.getElem?_eq_getElem hiy
    have hsz : acc.size = i := by rw [← Array.length_toList, hacc, List.length_map, hal]
    have hSl : S < h.objs.size := Heap.lt_size hS
    refine codeAny_builtin PySem.F.entry_extend_loop ?_
    rw [Around.under_plainId PySem.F.plain_extend_loop _]
    show wpAny _ A.in1 (pyNext (.ref z) >>= _) _ _ _
    refine wpAny_bind (zl_item (s := { s with heap := h, toks := tk }) (A := A.in1) D hst hSl ex ey fun h' hst' ht hz hkp => ?_)
    dsimp only at ht hz hkp ⊢
    have hS' := hkp S _ Sne.1 Sne.2.1 Sne.2.2.1 Sne.2.2.2 hS
    have up : ∀ b o, b ≠ S → h'.get? b = some o → (h'.update S (Obj.mapSeq (·.push (Value.ref h.objs.size)))).get? b = some o := fun b o hb e => (Heap.get?_update_other _ _ (Ne.symm hb)).trans e
    show wpAny _ A.in1 (updateSeq S (·.push (Value.ref h.objs.size)) >>= _) _ _ _
    refine wpAny_bind ?_
    refine wpAny_updateSeq hS' rfl (wpAny_pure ⟨plainId_quiet PySem.F.plain_extend_loop _, ih (i + 1) _ tk _ (acc.push (Value.ref h.objs.size)) (as ++ [h.objs.size]) (by omega) hlt (hst'.keep L up)
      (fun b o h1 h2 h3 h4 h5 e => up b o h1 (hkp b o h2 h3 h4 h5 (hkeep b o h1 h2 h3 h4 h5 e))) (Heap.get?_update_self _ hS' rfl) (by rw [Array.toList_push, hacc, List.map_append]; rfl) (by rw [List.length_append, hal]; rfl) ⟨?_, ?_, ?_⟩⟩) (by rw [hsz]; omega) (by show (acc.push (Value.ref h.objs.size)).size ≤ sizeLine + 1; rw [Array.size_push, hsz]; omega)
    · refine List.pairwise_append.mpr ⟨hG.rise, List.pairwise_singleton _ _, fun a ha b hb => ?_⟩
      rw [List.mem_singleton.mp hb]
      exact hG.there ha
    · intro a ha
      rcases List.mem_append.mp ha with ha | ha
      · exact hG.above a ha
      · rw [List.mem_singleton.mp ha]; exact hSl
    · intro j b hj
      rcases Nat.lt_trichotomy j as.length with h1 | h1 | h1
      · rw [List.getElem?_append_left h1] at hj
        obtain ⟨x, y, e1, e2, e3⟩ := hG.pairs j b hj
        have hb := hG.above b (List.mem_of_getElem? hj)
        obtain ⟨n1, n2, n3, n4⟩ := ne hb
        exact ⟨x, y, e1, e2, up b _ (Nat.ne_of_gt hb) (hkp b _ n1 n2 n3 n4 e3)⟩
      · subst h1
        have hb : h.objs.size = b := by simpa using hj
        subst hb
        exact ⟨_, _, by rw [hal]; exact ex, by rw [hal]; exact ey, up _ _ (Nat.ne_of_gt hSl) ht⟩
      · have hnone : (as ++ [h.objs.size])[j]? = none := List.getElem?_eq_none (by rw [List.length_append, List.length_singleton]; omega)
        rw [hnone] at hj; cases hj
end
section
variable {prog : Program} {w : World} {A : Around} {E : Value → Shared → Prop} {s : Shared} {z TI TO i1 i2 l1 l2 S : Addr} {xs ys : Array Value}
theorem zl_hint (hT : s.TypeIs (.ref z) "zip") {Q : Bool → Shared → Prop} (h : Q true s) : wpAny (model prog w) A (Builtin.List.listLengthHint (.ref z)) Q E s := by
  unfold Builtin.List.listLengthHint
  refine wpAny_bind (wpAny_specialOf hT zip_no_len ?_)
  show wpAny _ A (specialOf (Value.ref z) (Str.ofString "__length_hint__") >>= _) _ _ _
  refine wpAny_bind (wpAny_specialOf hT zip_no_hint ?_)
  exact wpAny_pure h
theorem zl_extend {R : Result → Shared → Prop} (hh : A.handled = none) (D : ZipApart z TI TO i1 i2 l1 l2) (L : ZlLow z TI TO i1 i2 l1 l2 S) (hz : IsZip s.heap z TI TO .none) (st : ZlSt z TI TO i1 i2 l1 l2 S xs ys 0 s.heap) (res : Value) (c₀ : Nat) (hS : s.heap.get? S = some { cls := .type "list", data := .seq #[] c₀ })
    (hR : ∀ h' tk acc c as, (∀ b o, b ≠ S → b ≠ z → b ≠ TO → b ≠ i1 → b ≠ i2 → s.heap.get? b = some o → h'.get? b = some o) → h'.get? S = some { cls := .type "list", dict := none, data := .seq acc c, slots := #[] } → as.length = min xs.size ys.size → ZlG xs ys S h' as →
      acc.toList = as.map Value.ref → R (.ok (.ret res)) { s with heap := h', toks := tk }) (hn : min xs.size ys.size ≤ sizeLine) :
    wpAny (model prog w) A.in1 (Builtin.List.listExtendWith (.ref S) (.ref z) res)
      (fun fin s' => match fin with | .done f => R (.ok f) s' | .again c' => c'.quiet = true ∧ codeAny (model prog w) A c' R s') (fun e s' => R (.error e) s') s := by
  have hT : s.TypeIs (.ref z) "zip" := ⟨_, hz, rfl⟩
  unfold Builtin.List.listExtendWith
  refine wpAny_bind (wpAny_typeOf hT ?_)
  have h1 : Builtin.List.listSameRef (.ref S) (.ref z) = false := by
    have : S ≠ z := Nat.ne_of_gt L.z
    simp [Builtin.List.listSameRef, this]
  have h2 : (Value.type "zip" == Value.type "list") = false := by decide
  have h3 : (Value.type "zip" == Value.type "tuple") = false := by decide
  simp only [h1, h2, h3, Bool.or_false, Bool.false_eq_true, if_false]
  refine wpAny_bind (wpAny_pyIter_zip hz ?_)
  refine wpAny_bind (wpAny_holding (zl_hint hT ?_))
  simp only [Bool.true_or, if_true]
  refine wpAny_bind (wpAny_rule ?_)
  refine wpAny_bind ?_
  show wpAny _ _ (updateSeq S (·.push .none) >>= fun _ => updateSeq S (·.pop)) _ _ _
  refine wpAny_bind (wpAny_updateSeq hS rfl ?_)
  have hS₂ := Heap.get?_update_self (Obj.mapSeq (·.push Value.none)) hS rfl
  refine wpAny_updateSeq (hz := by seq_fits) hS₂ rfl ?_
  have hS₃ := Heap.get?_update_self (Obj.mapSeq (·.pop)) hS₂ rfl
  have oth : ∀ b o, b ≠ S → s.heap.get? b = some o → ((s.heap.update S (Obj.mapSeq (·.push Value.none))).update S (Obj.mapSeq (·.pop))).get? b = some o :=
    fun b o hb e => (Heap.get?_update_other _ _ (Ne.symm hb)).trans ((Heap.get?_update_other _ _ (Ne.symm hb)).trans e)
  refine wpAny_pure ⟨plainId_quiet PySem.F.plain_extend_loop _, zl_loop (s := s) (h₁ := s.heap) hh D L hn res hR (min xs.size ys.size) 0 _ s.toks _ #[] [] (Nat.sub_zero _) (Nat.zero_le _) (st.keep L oth) (fun b o hb _ _ _ _ e => oth b o hb e) hS₃ rfl rfl
    ⟨List.Pairwise.nil, (fun _ ha => nomatch ha), (fun j a hj => by simp at hj)⟩⟩
theorem zl_init {R : Result → Shared → Prop} (hh : A.handled = none) (D : ZipApart z TI TO i1 i2 l1 l2) (L : ZlLow z TI TO i1 i2 l1 l2 S) (hz : IsZip s.heap z TI TO .none) (st : ZlSt z TI TO i1 i2 l1 l2 S xs ys 0 s.heap) (hS : s.heap.get? S = some { cls := .type "list", data := .seq #[] })
    (hR : ∀ h' tk acc c as, (∀ b o, b ≠ S → b ≠ z → b ≠ TO → b ≠ i1 → b ≠ i2 → s.heap.get? b = some o → h'.get? b = some o) → h'.get? S = some { cls := .type "list", dict := none, data := .seq acc c, slots := #[] } → as.length = min xs.size ys.size → ZlG xs ys S h' as →
      acc.toList = as.map Value.ref → R (.ok (.ret .none)) { s with heap := h', toks := tk }) (hn : min xs.size ys.size ≤ sizeLine) :
    wpAny (model prog w) A.in1 (Builtin.«list.__init__» ⟨[.ref S, .ref z], []⟩)
      (fun fin s' => match fin with | .done f => R (.ok f) s' | .again c' => c'.quiet = true ∧ codeAny (model prog w) A c' R s') (fun e s' => R (.error e) s') s := by
  show wpAny _ _ (do let old ← Builtin.List.listItems (.ref S); Builtin.List.listUpdate (.ref S) (fun _ => #[]); letGo old.toList.reverse; Builtin.List.listExtendWith (.ref S) (.ref z) .none) _ _ s
  refine wpAny_bind ?_
  unfold Builtin.List.listItems
  refine wpAny_bind (wpAny_seqItems hS rfl (wpAny_pure ?_))
  show wpAny _ _ (updateSeq S (fun _ => #[]) >>= fun _ => letGo (#[] : Array Value).toList.reverse >>= fun _ => Builtin.List.listExtendWith (.ref S) (.ref z) .none) _ _ s
  refine wpAny_bind (wpAny_updateSeq hS rfl ?_)
  have hS₂ := Heap.get?_update_self (Obj.mapSeq (fun _ => (#[] : Array Value))) hS rfl
  have oth : ∀ b o, b ≠ S → s.heap.get? b = some o → (s.heap.update S (Obj.mapSeq (fun _ => (#[] : Array Value)))).get? b = some o :=
    fun b o hb e => (Heap.get?_update_other _ _ (Ne.symm hb)).trans e
  refine wpAny_bind (wpAny_letGo ?_)
  refine zl_extend hh D L (oth _ _ (Nat.ne_of_lt L.z) hz) (st.keep L oth) .none _ hS₂ (fun h' tk acc c as hk hS' hl hG hacc => ?_) hn
  exact hR h' tk acc c as (fun b o hb h2 h3 h4 h5 e => hk b o hb h2 h3 h4 h5 (oth b o hb e)) hS' hl hG hacc
theorem zl_call {Q : Value → Shared → Prop} (hh : A.handled = none) (D : ZipApart z TI TO i1 i2 l1 l2) (L : ZlLow z TI TO i1 i2 l1 l2 s.heap.objs.size) (hz : IsZip s.heap z TI TO .none) (st : ∀ h, (∀ b o, s.heap.get? b = some o → h.get? b = some o) → ZlSt z TI TO i1 i2 l1 l2 s.heap.objs.size xs ys 0 h) (hn : min xs.size ys.size ≤ sizeLine)
    (hQ : ∀ h' tk acc c as, (∀ b o, b ≠ z → b ≠ TO → b ≠ i1 → b ≠ i2 → s.heap.get? b = some o → h'.get? b = some o) → h'.get? s.heap.objs.size = some { cls := .type "list", dict := none, data := .seq acc c, slots := #[] } → as.length = min xs.size ys.size → ZlG xs ys s.heap.objs.size h' as →
      acc.toList = as.map Value.ref → Q (.ref s.heap.objs.size) { s with heap := h', toks := tk }) :
    wpAny (model prog w) A (call (.type "list") [.ref z]) Q E s := by
  refine callType_codes (Q₁ := fun obj s₁ => obj = .ref s.heap.objs.size ∧ s₁ = { s with heap := s.heap.push { cls := .type "list", data := .seq #[] } }) PySem.F.called_list (PySem.F.typeCall_list_1 _) PySem.F.entry_list_init
    (code_list_new _ ⟨rfl, rfl⟩) fun obj s₁ h₁ => ?_
  obtain ⟨rfl, rfl⟩ := h₁
  have hS : (s.heap.push { cls := .type "list", data := .seq #[] }).get? s.heap.objs.size = some { cls := .type "list", data := .seq #[] } := Heap.get?_push_size _ rfl
  refine ⟨⟨_, hS, rfl⟩, PySem.F.args_list_init_2 _ _, zl_init (A := A.in1) hh D L (Heap.get?_push_of_some _ hz) (st _ fun b o e => Heap.get?_push_of_some _ e) hS (fun h' tk acc c as hk hS' hl hG hacc => ?_) hn⟩
  exact ⟨rfl, hQ h' tk acc c as (fun b o h2 h3 h4 h5 e => hk b o (Nat.ne_of_lt (Heap.lt_size e)) h2 h3 h4 h5 (Heap.get?_push_of_some _ e)) hS' hl hG hacc⟩
end

open L2
/-! ### at the hand layer -/
section
variable {X : Cx} {pins : List (Addr × Obj)} {σ : L2.St} {H H' : Hp} {s : Shared} {h' : Heap}
/-- many new objects are laid and tracked -/
theorem inv_many {t' : Nat} (I : L2.Inv X pins σ H s) (k : ∀ b u, s.heap.get? b = some u → h'.get? b = some u) (old : ∀ b, b < s.heap.objs.size → H' b = H b)
    (new : ∀ a u, s.heap.objs.size ≤ a → H' a = some u → ObjOk X.prog X.w H' h' a u) : L2.Inv X pins σ H' { s with heap := h', toks := t' } := by
  refine I.un (t' := t') (Un.mk (fun b o q _ _ _ => k b o q) (fun b o q _ _ _ => ⟨o.slots, k b o q⟩) (fun b o q n _ => by rw [old b (Heap.lt_size q)]; exact n) (fun b o q _ => ⟨o, k b o q⟩) (fun b xs q => by rw [old b (I.hok.lt q)]; exact q) (fun b o u q => by rw [old b (I.hok.lt q)]; exact q) fun b ps q => ⟨#[], by rw [old b (I.hok.lt q), q]; simp⟩) fun b u e => ?_
  by_cases hb : b < s.heap.objs.size
  · rw [old b hb] at e
    exact (I.hok b u e).stay (fun c v _ q => k c v q) (fun c q => by rw [old c (I.hok.lt q)]; exact q) fun c xs q => by rw [old c (I.hok.lt q)]; exact q
  · exact new b u (Nat.le_of_not_lt hb) e
end
/-- the pairs ps laid at the addresses as -/
def zlUp (H : Hp) : List Addr → List (V × V) → Hp
  | a :: as, p :: ps => zlUp (upd H a (.tup [p.1, p.2])) as ps
  | _, _ => H
theorem zlUp_some : ∀ {as : List Addr} {ps : List (V × V)} {H : Hp} {a : Addr} {u : HO}, zlUp H as ps a = some u → H a = some u ∨ ∃ (j : Nat) (x y : V), as[j]? = some a ∧ ps[j]? = some (x, y) ∧ u = .tup [x, y]
  | [], _, _, _, _, h => .inl h
  | _ :: _, [], _, _, _, h => .inl h
  | b :: as, (p, q) :: ps, H, a, u, h => by
    rcases zlUp_some (as := as) (ps := ps) (H := upd H b (.tup [p, q])) h with h | ⟨j, x, y, e1, e2, e3⟩
    · by_cases hb : a = b
      · subst hb
        rw [upd_same] at h; cases h
        exact .inr ⟨0, p, q, rfl, rfl, rfl⟩
      · rw [upd_ne hb] at h; exact .inl h
    · exact .inr ⟨j + 1, x, y, e1, e2, e3⟩
theorem zlUp_ne : ∀ {as : List Addr} {ps : List (V × V)} {H : Hp} {b : Addr}, b ∉ as → zlUp H as ps b = H b
  | [], _, _, _, _ => rfl
  | _ :: _, [], _, _, _ => rfl
  | a :: as, (p, q) :: ps, H, b, h => by
    have h1 : b ≠ a := fun e => h (by rw [e]; exact List.mem_cons_self)
    exact (zlUp_ne (as := as) (ps := ps) (H := upd H a (.tup [p, q])) fun e => h (List.mem_cons_of_mem _ e)).trans (upd_ne h1)
def tLstZip (K : PySem.W.Frag) (ta : TA) : TE := fun σ H Q => ta σ H fun vs H1 => ∃ a b xs ys, vs = [V.ref a, V.ref b] ∧ SqL K H1 a xs ∧ SqL K H1 b ys ∧
  ∀ (q : Addr) (as : List Addr), H1 q = none → (∀ c ∈ as, H1 c = none ∧ c ≠ q) → as.Nodup → as.length = min xs.length ys.length → Q (.ref q) (upd (zlUp H1 as (xs.zip ys)) q (.lst (as.map V.ref)))
theorem vals_refs : ∀ as : List Addr, Vals (as.map V.ref) (as.map Value.ref)
  | [] => .nil
  | _ :: as => .cons rfl (vals_refs as)
theorem pe_listZip {X : Cx} {e e2 : Expr} {ta : TA} {p p2 pos pos2 : Pos} (hc : X.calm = true) (hg : Gl X "list") (hm : X.mg "list" = none) (hg2 : Gl X "zip") (hm2 : X.mg "zip" = none) (ha : PA X [e, e2] ta)
    (na : starEach [Expr.Call (.Name "zip" p2) [e, e2] [] pos2] X.env = (false, eval (.Call (.Name "zip" p2) [e, e2] [] pos2) X.env) :: starEach [] X.env := by rfl)
    (hs : starEach [e, e2] X.env = (false, eval e X.env) :: starEach [e2] X.env := by rfl) (hpl : (backTo pos2 (starEach [e2] X.env)).any (·.1) = false := by rfl) :
    PE X (.Call (.Name "list" p) [.Call (.Name "zip" p2) [e, e2] [] pos2] [] pos) (tLstZip X.K ta) := by
  refine ⟨fun pins s σ H Q I h => ?_⟩
  refine Call_ (ld_blt I hg hm boot_list (PyProof.Rows.callWith_type1 (args_cons ?_ na) na))
  refine Call_ (ld_blt I hg2 hm2 PyProof.Rows.boot_zip (PyProof.Rows.callWith_type1 (thn (ha.run pos2 pins s σ H _ I h) fun us s1 ⟨vs, H1, I1, r1, q1⟩ => ?_) hs hpl))
  obtain ⟨a, b, xs, ys, ex, hqx, hqy, q⟩ := q1
  subst ex
  cases r1 with
  | cons r rr =>
    cases rr with
    | cons r' rr =>
      cases rr
      cases r
      cases r'
      obtain ⟨its, rv, p1, z1⟩ := I1.list hqx
      obtain ⟨its2, rv2, p2, z2⟩ := I1.list hqy
      refine call_zip_2 p1.isList p2.isList fun h2 hz hTI hTO h1 h2' hsz hk => ?_
      refine args_nil ?_
      have D := PySem.W.ktu_apart s1.heap.objs.size a b p1.lt p2.lt
      have l1 := rv.length
      have l2 := rv2.length
      have sz1 : its.toArray.size = xs.length := by simp [l1]
      have sz2 : its2.toArray.size = ys.length := by simp [l2]
      have pa : @LT.lt Nat _ a s1.heap.objs.size := p1.lt
      have pb : @LT.lt Nat _ b s1.heap.objs.size := p2.lt
      have hlo : s1.heap.objs.size < h2.objs.size := by rw [hsz]; omega
      refine zl_call (s := { s1 with heap := h2 }) (xs := its.toArray) (ys := its2.toArray) (I1.ok.hd hc) D ?_ hz ?_ (by rw [sz1]; exact Nat.le_trans (Nat.min_le_left ..) z1) fun h3 tk acc c as hk3 hS hal hG hacc => ?_
      · show ZlLow _ _ _ _ _ _ _ h2.objs.size
        rw [hsz]
        constructor <;> (show (_ : Nat) < _; omega)
      · intro h hk'
        have hl1 := p1.isList.at fun o e => hk _ o e
        have hl2 := p2.isList.at fun o e => hk _ o e
        exact ⟨hk' _ _ hTI, h1.at fun o e => hk' _ o e, h2'.at fun o e => hk' _ o e, hl1.at fun o e => hk' _ o e, hl2.at fun o e => hk' _ o e, .inl ⟨hk' _ _ hz, _, _, hk' _ _ hTO⟩⟩
      · have hne : ∀ (b : Nat) (u : Obj), s1.heap.get? b = some u → h3.get? b = some u := fun b u e => by
          have hb : b < s1.heap.objs.size := Heap.lt_size e
          exact hk3 b u (show (b : Nat) ≠ _ by omega) (show (b : Nat) ≠ _ by omega) (show (b : Nat) ≠ _ by omega) (show (b : Nat) ≠ _ by omega) (hk b u e)
        have hab : ∀ c ∈ as, h2.objs.size < c := hG.above
        have hnot : h2.objs.size ∉ as := fun hm => Nat.lt_irrefl _ (hab _ hm)
        have hnd : as.Nodup := hG.rise.imp fun h => Nat.ne_of_lt h
        have hff : ∀ c, s1.heap.objs.size ≤ c → H1 c = none := fun c hc => I1.hok.fresh hc
        refine ⟨.ref h2.objs.size, upd (zlUp H1 as (xs.zip ys)) h2.objs.size (.lst (as.map V.ref)), inv_many (s := s1) (t' := tk) I1 hne (fun b hb => ?_) (fun c u hcs hcu => ?_), rfl, q _ as (hff _ (Nat.le_of_lt hlo)) (fun c hm => ⟨hff _ (by have := hab c hm; omega), Nat.ne_of_gt (hab c hm)⟩) hnd (by rw [hal, sz1, sz2])⟩
        · rw [upd_ne (show (b : Nat) ≠ _ by omega), zlUp_ne fun hm => by have := hab b hm; omega]
        · by_cases hcS : c = h2.objs.size
          · subst hcS
            rw [upd_same] at hcu
            cases hcu
            refine ⟨?_, acc.toList, c, ?_, ?_⟩
            · rw [List.length_map, hal, sz1, sz2]; exact Nat.le_trans (Nat.min_le_left ..) z1
            · rw [hacc]; exact vals_refs as
            · rw [Array.toArray_toList]; exact hS
          · rw [upd_ne hcS] at hcu
            rcases zlUp_some hcu with hcu | ⟨j, x, y, e1, e2, rfl⟩
            · rw [hff c hcs] at hcu; cases hcu
            · obtain ⟨vx, vy, g1, g2, g3⟩ := hG.pairs j c e1
              rw [List.getElem?_zip_eq_some] at e2
              obtain ⟨u1, hu1, ru1⟩ := rv.get e2.1
              obtain ⟨u2, hu2, ru2⟩ := rv2.get e2.2
              have e3 : vx = u1 := by simp at g1; rw [hu1] at g1; exact (Option.some.inj g1).symm
              have e4 : vy = u2 := by simp at g2; rw [hu2] at g2; exact (Option.some.inj g2).symm
              subst e3; subst e4
              exact ⟨by show 2 ≤ sizeLine; decide, [vx, vy], .cons ru1 (.cons ru2 .nil), ⟨_, g3, rfl, _, rfl⟩⟩
/-! ### list(zip(..)) in the layer -/
def mLstZip (m m' : M D) : M D := fun ρ S => (m ρ S).bind fun d S1 => (m' ρ S1).bind fun e S2 => match seqL S2 d, seqL S2 e with
  | some ds, some es => .ok (.lst (zipL ds es)) S2
  | _, _ => .fail
@[simp] theorem x_lstZip {a b : M D} {ρ : Env'} {S : Store} : mLstZip a b ρ S = (a ρ S).bind fun d S1 => (b ρ S1).bind fun e S2 => match seqL S2 d, seqL S2 e with
  | some ds, some es => .ok (.lst (zipL ds es)) S2
  | _, _ => .fail := rfl
section
variable {K : PySem.W.Frag} {mg : Str → Option Value} {μ : List Addr} {S : Store}
theorem zl_rep : ∀ {ds es : List D} {vs ws : List V} {as : List Addr} {H : Hp}, Rel K mg μ S H → RepL K μ H ds vs → RepL K μ H es ws → (∀ a ∈ as, H a = none) → as.Nodup → as.length = min vs.length ws.length →
    Step K mg μ H μ S (zlUp H as (vs.zip ws)) ∧ RepL K μ (zlUp H as (vs.zip ws)) (zipL ds es) (as.map V.ref) := by
  intro ds
  induction ds with
  | nil =>
    intro es vs ws as H R l l' _ _ hl
    have h0 := l.length
    have h1 : as = [] := List.eq_nil_of_length_eq_zero (by simp at h0; omega)
    subst h1
    exact ⟨Step.refl R, RepL.nil⟩
  | cons d ds ih =>
    intro es vs ws as H R l l' ha hd hl
    obtain ⟨v, vs', rfl, r, lr⟩ := RepL.cons_iff.mp l
    cases es with
    | nil =>
      have h0 := l'.length
      have h1 : as = [] := List.eq_nil_of_length_eq_zero (by simp at h0; omega)
      subst h1
      exact ⟨Step.refl R, RepL.nil⟩
    | cons e es =>
      obtain ⟨w, ws', rfl, r', lr'⟩ := RepL.cons_iff.mp l'
      cases as with
      | nil => simp at hl
      | cons a as =>
        have hn := ha a (by simp)
        have st1 : Step K mg μ H μ S (upd H a (.tup [v, w])) := Step.fresh R hn
        have R1 := st1.rel
        obtain ⟨n1, n2⟩ := List.nodup_cons.mp hd
        obtain ⟨st2, l2⟩ := ih (es := es) (vs := vs') (ws := ws') (as := as) R1 (st1.repL R lr) (st1.repL R lr') (fun c hc => by rw [upd_ne (fun e : c = a => n1 (by rw [← e]; exact hc))]; exact ha c (List.mem_cons_of_mem _ hc)) n2 (by simp at hl; omega)
        exact ⟨st1.trans R st2, RepL.cons (st2.rep R1 (rep_two R hn r r')) l2⟩
end
section
variable {X : Cx} {W : WX}
theorem ev_listZip {e e2 : Expr} {m m' : M D} {p p2 pos pos2 : Pos} (hc : X.calm = true) (hg : Gl X "list") (hm : X.mg "list" = none) (hg2 : Gl X "zip") (hm2 : X.mg "zip" = none) (he : EvE X W e m) (hs : notStar e = true) (he2 : EvE X W e2 m') (hs2 : notStar e2 = true) :
    EvE X W (.Call (.Name "list" p) [.Call (.Name "zip" p2) [e, e2] [] pos2] [] pos) (mLstZip m m') := by
  refine EvE.of_pe (pe_listZip hc hg hm hg2 hm2 (pa_cons he.pe (pa_cons he2.pe pa_nil (star_of hs2)) (star_of hs)) rfl (star_of hs) (by rw [star_of hs2]; rfl)) fun σ H μ S ρ R E F => ?_
  unfold mLstZip at F
  refine tm1 R E F fun d1 S1 v1 μ1 H1 e1 st1 x1 R1 E1 F1 => ?_
  refine tm1 R1 E1 F1 fun d2 S2 v2 μ2 H2 e2 st2 x2 R2 E2 F2 => ?_
  have y1 := x1.step R1 st2
  have y2 := x2.back R st1
  have y1 : ResOk X.K X.mg μ2 H H2 d1 v1 := y1
  have y2 : ResOk X.K X.mg μ2 H H2 d2 v2 := y2
  show ∃ a b xs ys, [v1, v2] = [V.ref a, V.ref b] ∧ _
  cases h1 : seqL S2 d1 with
  | none => rw [h1] at F2; exact F2.elim
  | some ds =>
    cases h2 : seqL S2 d2 with
    | none => rw [h1, h2] at F2; exact F2.elim
    | some es =>
      obtain ⟨a, vs, rfl, hq, l⟩ := seqL_ok R2 y1 h1
      obtain ⟨b, ws, rfl, hq', l'⟩ := seqL_ok R2 y2 h2
      refine ⟨a, b, vs, ws, rfl, hq, hq', fun q as hn hf hnd hl => ?_⟩
      obtain ⟨st3, l3⟩ := zl_rep R2 l l' (fun c hm => (hf c hm).1) hnd hl
      have R3 := st3.rel
      have hq3 : zlUp H2 as (vs.zip ws) q = none := by rw [zlUp_ne fun hm => (hf q hm).2 rfl]; exact hn
      have st12 := st1.trans R st2
      have st123 := st12.trans R st3
      refine ⟨.lst (zipL ds es), S2, μ2, ?_, st123.trans R (Step.fresh R3 hq3), (new_lst R3 hq3 l3).back R st123⟩
      unfold mLstZip
      rw [e1, bind_ok, e2, bind_ok, h1, h2]
end
end Ev
/-! Ev44: t[::-1] of a tuple. -/
namespace Ev
open PySem PySem.Spec PyProof.Rows L2 HT
section
variable {prog : Program} {w : World} {A : Around} {E : Value → Shared → Prop} {s : Shared}
theorem adjust_rev (n : Nat) : Builtin.Slice.sliceAdjust none none (-1) (n : Int) = ((n : Int) - 1, -1) := by
  unfold Builtin.Slice.sliceAdjust
  simp
theorem places_rev (n : Nat) : Builtin.Slice.slicePlaces ((n : Int) - 1) (-1) (-1) = n := by
  unfold Builtin.Slice.slicePlaces
  simp
  try omega
theorem pick_rev (items : Array Value) : ((List.range items.size).filterMap fun (k : Nat) => items[(((items.size : Int) - 1) + (k : Int) * (-1)).toNat]?).toArray = items.toList.reverse.toArray := by
  have e : (List.range items.size).filterMap (fun (k : Nat) => items[(((items.size : Int) - 1) + (k : Int) * (-1)).toNat]?) = ((List.range items.size).map fun k => items.size - 1 - k).filterMap (items[·]?) := by
    rw [List.filterMap_map]
    congr 1
    funext k
    show items[_]? = items[_]?
    congr 1
    dsimp only
    omega
  rw [e, PySem.W.krv_range, List.filterMap_reverse, PySem.W.krv_all]
theorem sliceApplied_rev {sl : Addr} {vl vu vs : Value} {n : Nat} {Q : Int × Int × Nat → Shared → Prop} (hs : s.heap.IsSliceOf sl vl vu vs) (pl : IsPart vl none) (pu : IsPart vu none) (ps : IsPart vs (some (-1)))
    (h : Q ((n : Int) - 1, -1, n) s) : wpAny (model prog w) A (Builtin.Slice.sliceApplied (.ref sl) (pure (n : Int))) Q E s := by
  obtain ⟨os, hos, hcs, hds⟩ := id hs
  unfold Builtin.Slice.sliceApplied Builtin.Slice.sliceFields
  refine wpAny_bind (wpAny_bind (wpAny_field hos hds (x := vl) rfl (wpAny_bind (wpAny_field hos hds (x := vu) rfl (wpAny_bind (wpAny_field hos hds (x := vs) rfl (wpAny_pure ?_)))))))
  refine wpAny_bind (slicePart_ ps ?_)
  show wpAny _ _ (if ((-1 : Int) == 0) = true then _ else _) _ _ s
  rw [if_neg (by decide)]
  refine wpAny_bind (slicePart_ pl (wpAny_bind (slicePart_ pu (wpAny_bind (wpAny_pure ?_)))))
  show wpAny _ _ (match Builtin.Slice.sliceAdjust none none (-1) (n : Int) with | (lo, hi) => pure (lo, (-1 : Int), Builtin.Slice.slicePlaces lo hi (-1))) _ _ s
  rw [adjust_rev]
  show wpAny _ _ (pure ((n : Int) - 1, (-1 : Int), Builtin.Slice.slicePlaces ((n : Int) - 1) (-1) (-1))) _ _ s
  rw [places_rev]
  exact wpAny_pure h
theorem getItem_tuple_rev {t sl : Addr} {items : Array Value} {vl vu vs : Value} {Q : Value → Shared → Prop} (ht : IsTup s.heap t items) (hs : s.heap.IsSliceOf sl vl vu vs) (pl : IsPart vl none) (pu : IsPart vu none) (ps : IsPart vs (some (-1)))
    (h : Q (.ref s.heap.objs.size) { s with heap := s.heap.push { cls := .type "tuple", data := .seq items.toList.reverse.toArray } }) (hsz : items.size ≤ sizeLine) : wpAny (model prog w) A (getItem (.ref t) (.ref sl)) Q E s := by
  have htake : sizeOk (.seq items.toList.reverse.toArray) := by
    show items.toList.reverse.toArray.size ≤ sizeLine
    rw [List.size_toArray, List.length_reverse, Array.length_toList]
    exact hsz
  obtain ⟨os, hos, hcs, hds⟩ := id hs
  have hTs : s.TypeIs (.ref sl) "slice" := ⟨os, hos, hcs⟩
  unfold getItem
  try with_reducible refine wpAny_holding ?_
  first | refine wpAny_bind (wpAny_pure ?_) | skip
  refine wpAny_bind (wpAny_sequenceKey ht.typeIs (by decide) ?_)
  refine wpAny_bind (wpAny_callSpecial?_slot (name := Str.ofString "__getitem__") ht.typeIs PyProof.Rows.slot_tuple_getitem
    (wpAny_call_entry PyProof.Rows.slot_tuple_getitem ht.typeIs entry_tuple_getitem ?_ (args_tuple_getitem _ _)))
  show wpAny _ _ (Builtin.Tuple.tupleItemsOf (.ref t) >>= _) _ _ s
  refine wpAny_bind (tupleItemsOf_ ht ?_)
  refine wpAny_bind (wpAny_typeOf hTs ?_)
  rw [if_pos (by decide)]
  refine wpAny_bind (sliceApplied_rev hs pl pu ps ?_)
  have hno : ¬ (((((items.size : Nat) : Int) - 1) == 0 && (-1 : Int) == 1 && items.size == items.size) = true) := by
    intro q
    rw [Bool.and_eq_true, Bool.and_eq_true] at q
    exact absurd q.1.2 (by decide)
  show wpAny _ _ (if ((((items.size : Nat) : Int) - 1) == 0 && (-1 : Int) == 1 && items.size == items.size) = true then _ else _) _ _ s
  rw [if_neg hno, pick_rev]
  first
    | exact wpAny_bind (m := Builtin.Tuple.tupleExact _) (wpAny_newObj_type (wpAny_pure ⟨_, rfl, wpAny_pure h⟩) htake)
    | exact wpAny_bind (m := Builtin.Tuple.tupleExact _) (wpAny_newObj_type (wpAny_bind (wpAny_pure (wpAny_pure ⟨_, rfl, wpAny_pure h⟩))) htake)
    | exact wpAny_bind (wpAny_bind (m := Builtin.Tuple.tupleExact _) (wpAny_newObj_type (wpAny_pure (wpAny_pure ⟨_, rfl, wpAny_pure h⟩)) htake))
    | exact wpAny_bind (wpAny_bind (m := Builtin.Tuple.tupleExact _) (wpAny_newObj_type (wpAny_pure ⟨_, rfl, wpAny_pure h⟩) htake))
end
section
variable {X : Cx} {W : WX}
def tRevT (K : PySem.W.Frag) (te : TE) : TE := fun σ H Q => te σ H fun x H1 => ∃ a xs, x = .ref a ∧ SqT K H1 a xs ∧ ∀ p, H1 p = none → Q (.ref p) (upd H1 p (.tup xs.reverse))
theorem pe_revT {e : Expr} {te : TE} {k : Nat} {p1 p2 p3 pos : Pos} (he : PE X e te) : PE X (.Subscript e (.Slice none none (some (.UnaryOp .USub (.Constant (.int 1) k p1) p2)) p3) pos) (tRevT X.K te) := by
  refine ⟨fun pins s σ H Q I h => ?_⟩
  refine Subscript_ (thn (he.run pins s σ H _ I h) fun v s1 ⟨x, H1, I1, r1, q1⟩ => ?_)
  obtain ⟨a, xs, ex, hx, q⟩ := q1
  subst ex
  cases r1
  have hst : PO X (some (.UnaryOp .USub (.Constant (.int 1) k p1) p2)) (tPart (tUn (rU fun i => .int (-i)) (tC (.int 1)))) := po_some (pe_un un_neg pe_int)
  refine wpAny_Slice (thn (po_none.run pins s1 σ H1 (fun o H2 => o = none ∧ H2 = H1) I1 ⟨rfl, rfl⟩) fun vl s2 ⟨l, H2, I2, pl, el, e2⟩ => ?_)
  subst el e2
  refine thn (po_none.run pins s2 σ H2 (fun o H3 => o = none ∧ H3 = H2) I2 ⟨rfl, rfl⟩) fun vu s3 ⟨u, H3, I3, pu, eu, e3⟩ => ?_
  subst eu e3
  refine thn (hst.run pins s3 σ H3 (fun o H4 => o = some (-1) ∧ H4 = H3) I3 ⟨1, rfl, -1, rfl, rfl, rfl⟩) fun vs s4 ⟨o, H4, I4, ps, eo, e4⟩ => ?_
  subst eo e4
  have I5 : L2.Inv X pins σ H4 { s4 with heap := s4.heap.push { cls := .type "slice", data := .fields #[vl, vu, vs] } } := I4.kept (t' := s4.toks) fun b ob q => Heap.get?_push_of_some _ q
  obtain ⟨its, r, ht, hz⟩ := I5.tuple hx
  have hlen := r.length
  show wpAny (model X.prog X.w) X.A (subscriptTail e (.Slice none none (some (.UnaryOp .USub (.Constant (.int 1) k p1) p2)) p3) (.ref a) (.ref s4.heap.objs.size)) (EP X pins σ Q) X.xe { s4 with heap := s4.heap.push { cls := .type "slice", data := .fields #[vl, vu, vs] } }
  refine tail_any (ops := [.ref a, .ref s4.heap.objs.size]) ht.typeIs (PyProof.Rows.slot_tuple_getitem.lookup) ?_ (by with_unfolding_all rfl)
  refine getItem_tuple_rev ht (Heap.IsSliceOf.new _ vl vu vs) pl pu ps ?_ (by rw [List.size_toArray]; omega)
  refine ⟨.ref _, _, I5.laid (t' := s4.toks) (o := .tup xs.reverse) (fun b ob q => Heap.get?_push_of_some _ q) (Nat.le_refl _) ?_, rfl, q _ (I5.hok.fresh (Nat.le_refl _))⟩
  exact ⟨by rw [List.length_reverse]; exact hz, _, r.reverse, IsTup.new _ _⟩
/-- t[::-1] of a tuple -/
def mRevT (ma : M D) : M D := fun ρ S => (ma ρ S).bind fun d S1 => match seqT d with
  | some ds => .ok (.tup ds.reverse) S1
  | none => .fail
@[simp] theorem x_revT {a : M D} {ρ : Env'} {S : Store} : mRevT a ρ S = (a ρ S).bind fun d S1 => match seqT d with
  | some ds => .ok (.tup ds.reverse) S1
  | none => .fail := rfl
theorem ev_revT {a : Expr} {ma : M D} {k : Nat} {p1 p2 p3 pos : Pos} (ha : EvE X W a ma) : EvE X W (.Subscript a (.Slice none none (some (.UnaryOp .USub (.Constant (.int 1) k p1) p2)) p3) pos) (mRevT ma) := by
  refine EvE.of_pe (pe_revT ha.pe) fun σ H μ S ρ R E F => ?_
  unfold mRevT at F ⊢
  refine tm1 R E F fun d S1 v μ1 H1 e st x R1 E1 F1 => ?_
  split at F1
  · rename_i ds hd
    obtain ⟨a, vs, rfl, q, l⟩ := seqT_ok x hd
    exact ⟨a, vs, rfl, q, fun p hp => ⟨_, S1, μ1, by rw [e, bind_ok]; simp only [hd], st.trans R (Step.fresh R1 hp), (new_tup R1 hp l.reverse).back R st⟩⟩
  · exact F1.elim
end
end Ev
/-! Ev45: an except suite that raises an own exception out of the try; a def that lets it out; try .. as around it. -/
namespace Ev
open PySem PySem.Spec PyProof.Rows L2
section
variable {X : Cx} {W : WX}
theorem skyN {B h : Heap} {l : List Env} {a L : Addr} {Z Z' : Obj → Prop} (z : ∀ o, Z o → Z' o) (x : Sky B l a Z L h) : Sky B l a Z' L h := by
  rcases x with ⟨h1, h2, h3, oe, vs, h4, h5, h6⟩ | x | x
  · exact .inl ⟨h1, h2, h3, oe, vs, h4, z _ h5, h6⟩
  · exact .inr (.inl (L2H.flyingZ_imp z x))
  · exact .inr (.inr ⟨x.1, x.2.1, x.2.2.1, L2H.tracedZ_imp z x.2.2.2⟩)
/-- who takes all takes what has no context -/
theorem takesN (tk : L2.Takes X W) : L2N.Takes X W := fun u s' ⟨a, B, sI, pins, σ, H, cls, d, e, I, nb, up, sky, na, os, ag, w⟩ =>
  tk u s' ⟨a, B, sI, pins, σ, H, cls, d, e, I, nb, up, skyN (fun o z => z.zc) sky, na, os, ag, w⟩
theorem evs_tryR {x : Str} {c : Value} {body suite : List Stmt} {b0 : Stmt} {np pos pos' : Pos} {isx : Str → Option Bool} {mb ms : MS} (hs : X.stack = X.env :: X.outer) (hf : X.env.frame = some X.env.locals) (hc : Names X x c)
    (hpa : ∀ hd : Option Value, PassesOwnAt (model X.prog X.w) (X.A.mark hd) X.A X.env X.xe) (tk : L2.Takes X W)
    (hi : ∀ c' b C', isx c' = some b → X.mg c' = some (.ref C') → PySem.W.exmOne X.K (.ref C') c = some b)
    (hb : ∀ (W : WX) (pn : List (Addr × Obj)) (xe : Value → Shared → Prop), L2N.Takes (X.tr pn xe) W → PassesOwn (model X.prog X.w) X.A X.env xe → EvSs (X.tr pn xe) W body mb)
    (hsu : ∀ (a : Addr) (oe : Obj) (pn : List (Addr × Obj)), L2.Takes (L2H.suiteX X a ((a, oe) :: pn)) W → L2H.HotC (L2H.suiteX X a ((a, oe) :: pn)) → EvSs (L2H.suiteX X a ((a, oe) :: pn)) W (b0 :: suite) ms) :
    EvS X W (.Try body [.ExceptHandler (some (.Name x np)) none (b0 :: suite) pos'] [] [] pos) (sTry isx mb ms) := by
  refine PS.imp (L2H.ps_try_onlyX hs hf hc hpa tk (tb := fun W => TMs X W mb) (ts := fun _ _ _ => TMs X W ms) (fun W pn xe t _ p => hb W pn xe t p) (fun a oe cls d pn _ _ t h => hsu a oe pn t h)) fun E σ H ⟨μ, S, ρ, R, En, G⟩ => ?_
  refine ⟨μ, S, ρ, R, En, ?_⟩
  unfold sTry at G
  cases hm : mb ρ S with
  | exc c' ks ds ρ1 S1 =>
    rw [hm] at G
    intro cls dx σ' μ' H' st En' xr
    obtain ⟨C', g1, e1, h2⟩ := id xr
    subst e1
    dsimp only at G
    cases hq : isx c' with
    | none => rw [hq] at G; exact G.elim
    | some b =>
      rw [hq] at G
      refine ⟨b, hi c' b C' hq g1, fun eb a ha => ?_, fun eb => ?_⟩
      · subst eb
        exact ⟨μ', S1, ρ1, st.rel, En', GoodS.back R st G⟩
      · subst eb
        exact G (.ref C') dx σ' μ' H' st En' xr
  | next _ _ => rw [hm] at G; exact G
  | brk _ _ => rw [hm] at G; exact G
  | cont _ _ => rw [hm] at G; exact G
  | ret _ _ => rw [hm] at G; exact G
  | fail => rw [hm] at G; exact G.elim
theorem evs_tryRT {x : Str} {l : List (Str × Bool)} {body suite : List Stmt} {b0 : Stmt} {np pos pos' : Pos} {mb ms : MS} (hs : X.stack = X.env :: X.outer) (hf : X.env.frame = some X.env.locals) (hg : Gl X x) (hd : (x == ("__debug__" : Str)) = false) (h : HdT X.K X.mg x l)
    (hpa : ∀ hd : Option Value, PassesOwnAt (model X.prog X.w) (X.A.mark hd) X.A X.env X.xe) (tk : L2.Takes X W)
    (hb : ∀ (W : WX) (pn : List (Addr × Obj)) (xe : Value → Shared → Prop), L2N.Takes (X.tr pn xe) W → PassesOwn (model X.prog X.w) X.A X.env xe → EvSs (X.tr pn xe) W body mb)
    (hsu : ∀ (a : Addr) (oe : Obj) (pn : List (Addr × Obj)), L2.Takes (L2H.suiteX X a ((a, oe) :: pn)) W → L2H.HotC (L2H.suiteX X a ((a, oe) :: pn)) → EvSs (L2H.suiteX X a ((a, oe) :: pn)) W (b0 :: suite) ms) :
    EvS X W (.Try body [.ExceptHandler (some (.Name x np)) none (b0 :: suite) pos'] [] [] pos) (sTry (isxOf l) mb ms) := by
  obtain ⟨C, hm, hx⟩ := h.ex
  exact evs_tryR hs hf ⟨hg, hd, .inl hm⟩ hpa tk (fun c' b C' e g => hx.ok c' b C' e g) hb hsu
/-! ### a def that lets such an exception out -/
structure CallOkX (X : Cx) (x : Str) (n : Nat) (f : Fn) : Prop where
  ex : ∃ (a : Addr) (fd : FuncData) (ps : List Str) (k : Nat), X.mg x = some (.ref a) ∧ PySem.W.keepIn X.K (.ref a) = true ∧ Binds X.K fd ps [] ∧ Room k X.A ∧ FnOk X.prog X.w X.K X.mg X.base (L2.CX X.prog X.w) k a fd ps (spOf X.K X.mg n f)
theorem run_okX {pins : List (Addr × Obj)} {σ : L2.St} {H0 H : Hp} {s : Shared} {us : List Value} {vs : List V} {μ0 μ : List Addr} {S0 S : Store} {ds : List D} {n k : Nat} {f : Fn} {a : Addr} {fd : FuncData} {ps : List Str}
    (tk : L2.Takes X W) (hb : Binds X.K fd ps []) (hr : Room k X.A) (Fk : FnOk X.prog X.w X.K X.mg X.base (L2.CX X.prog X.w) k a fd ps (spOf X.K X.mg n f))
    (R0 : Rel X.K X.mg μ0 S0 H0) (st : Step X.K X.mg μ0 H0 μ S H) (I : Inv X pins σ H s) (rv : Vals vs us) (rl : ResL X.K X.mg μ H0 H ds vs) (hn : ds.length = n) (F : Fine X.K X.mg W μ H σ (f ds S)) (hexc : ∀ (c : Str) ks es S', f ds S = .exc c ks es S' → ∀ cls dx μ' H', Step X.K X.mg μ0 H0 μ' S' H' → ExcRep X.K X.mg μ' H' c ks es cls dx → W cls dx σ H') :
    wpAny (model X.prog X.w) X.A (call (.ref a) us) (fun u s' => ∃ d S' v μ' H', f ds S = .ok d S' ∧ Inv X pins σ H' s' ∧ RelV v u ∧ Step X.K X.mg μ0 H0 μ' S' H' ∧ ResOk X.K X.mg μ' H0 H' d v) X.xe s := by
  have hx : ∀ a ∈ newA ds vs, H0 a = none := fun a ha => (rl.new a ha).2.2
  refine thn (run_fnS (E := fun σ => WE W σ) (Q := fun v H' => ∃ d S' μ', f ds S = .ok d S' ∧ Step X.K X.mg μ0 H0 μ' S' H' ∧ ResOk X.K X.mg μ' H0 H' d v) Fk hr hb (L2.passAt tk σ) I rv ?_) fun u s' ⟨v, H', I', r, d, S', μ', e, s2, x⟩ => ⟨d, S', v, μ', H', e, I', r, s2, x⟩
  refine ⟨μ, S, ds, st.rel, rl.any, hn, ?_⟩
  cases hf : f ds S with
  | ok d S' => exact fun v μ' H' s2 x => ⟨d, S', μ', rfl, s2.step R0 st hx, x.res R0 st hx⟩
  | exc c ks es S' => exact fun cls dx μ' H' s2 x => hexc c ks es S' hf cls dx μ' H' (s2.step R0 st hx) x
  | fail => rw [hf] at F; exact F
theorem ev_callX {x : Str} {e : Expr} {es : List Expr} {p pos : Pos} {n : Nat} {f : Fn} {m : M (List D)} (tk : L2.Takes X W) (hg : Gl X x) (hc : CallOkX X x n f) (ha : EvA X W (e :: es) m) (hs : noStars (e :: es) = true) (hdb : (x == ("__debug__" : Str)) = false) :
    EvE X W (.Call (.Name x p) (e :: es) [] pos) (mCall n f m) := by
  obtain ⟨a, fd, ps, k, hm, hk, hb, hr, Fk⟩ := hc.ex
  refine ⟨fun pins s σ H μ S ρ I R E F => ?_⟩
  unfold mCall at F ⊢
  have go : ∀ (us : List Value) (s1 : Shared) ds S1 vs μ1 H1, m ρ S = .ok ds S1 → Inv X pins σ H1 s1 → Vals vs us → Step X.K X.mg μ H μ1 S1 H1 → ResL X.K X.mg μ1 H H1 ds vs →
      wpAny (model X.prog X.w) X.A (call (.ref a) us) (EvP X pins σ μ H H ((m ρ S).bind fun ds S1 => if ds.length = n then f ds S1 else .fail)) X.xe s1 := by
    intro us s1 ds S1 vs μ1 H1 e1 I1 r1 st1 x1
    have F1 := Fine.right R st1 F e1
    split at F1
    · rename_i hn
      refine thn (run_okX tk hb hr Fk R st1 I1 r1 x1 hn F1 fun c ks es S' e cls dx μ' H' s2 x => ?_) fun u s' ⟨d, S', v, μ', H', e, I', r, s2, x⟩ => ⟨d, S', v, μ', H', by rw [e1, bind_ok, if_pos hn]; exact e, I', r, s2, x⟩
      have F' := F
      rw [e1, bind_ok, if_pos hn, e] at F'
      exact F' cls dx μ' H' s2 x
    · exact F1.elim
  refine wpAny_Call_Name_kw (ld_glob I hg hm ?_ hdb)
  unfold noStars at hs
  rw [Bool.and_eq_true] at hs
  refine PySem.W.callWith_K (h₀ := X.base) I.ok.mod.kin hk (thn (ha.run pos pins s σ H μ S ρ I R E F.left) fun us s1 ⟨ds, S1, vs, μ1, H1, e1, I1, r1, st1, x1⟩ => ⟨I1.kIn, ?_⟩) (star_of hs.1) (noStars_any hs.2)
  exact go us s1 ds S1 vs μ1 H1 e1 I1 r1 st1 x1
end
/-- a def that may be called, with room for k calls within one another -/
structure CalX (P : Program) (w : World) (K : PySem.W.Frag) (mg : Str → Option Value) (base : Heap) (x : Str) (n : Nat) (f : Fn) (k : Nat) : Prop where
  ex : ∃ (a : Addr) (fd : FuncData) (ps : List Str), mg x = some (.ref a) ∧ PySem.W.keepIn K (.ref a) = true ∧ Binds K fd ps [] ∧ FnOk P w K mg base (L2.CX P w) k a fd ps (spOf K mg n f)
theorem CalX.ok {X : Cx} {x : Str} {n : Nat} {f : Fn} {k : Nat} (c : CalX X.prog X.w X.K X.mg X.base x n f k) (hr : Room k X.A) : CallOkX X x n f :=
  let ⟨a, fd, ps, h1, h2, h3, h4⟩ := c.ex
  ⟨⟨a, fd, ps, k, h1, h2, h3, hr, h4⟩⟩
section
variable {K : PySem.W.Frag} {mg : Str → Option Value}
theorem fn_okX {P : Program} {w : World} {base : Heap} {x qual : Str} {st : Stmt} {f : Addr} {fd : FuncData} {N ps : List Str} {k : Nat} {body : MS} (F : Fun K x qual st f fd) (Sc : FnScope N ps (defScope st))
    (hbody : ∀ (cdv : Value) (A : Around) (outer : List Env) (s : Shared) (H : Hp) (E : XK), Room k (A.deeper (envOfC qual (defScope st) s.heap.objs.size f cdv)) →
      EvSs (cxOf (L2.CX P w) P w K mg base N qual (defScope st) f cdv A outer s H E) (fun cls dx _ H => E cls dx H) (defBody st) body) : FnOk P w K mg base (L2.CX P w) (k + 1) f fd ps (spOf K mg ps.length (runBody body N.length)) := by
  obtain ⟨oc, od, kV, doc, pm, an, cdv, ct, osl, rfl, lk, hcd⟩ := F.ex
  refine fn_of lk hcd Sc (fun vs H Q E h => ?_) (fun A outer s H vs Q E hr h => ?_)
  · obtain ⟨μ, S, ds, _, hl, hn, _⟩ := h
    rw [← hl.length]; exact hn
  · exact ⟨_, hbody cdv A outer s H E hr, body_good rfl rfl h⟩
end
/-! ### the exception's __init__ while another is handled -/
section
variable {P : Program} {w : World} {K : PySem.W.Frag} {mg : Str → Option Value} {base : Heap}
theorem init2_okH {x qual sf a1 a2 f1 f2 L m : Str} {st : Stmt} {f : Addr} {fd : FuncData} {j : Nat} {p1 p2 p3 p4 p5 p6 p7 p8 p9 p10 q7 q8 q9 q10 : Pos} (F : Fun K x qual st f fd) (Sc : FnScope [sf, a1, a2] [sf, a1, a2] (defScope st)) (hT : BaseT K mg L) (hL : (L == ("__debug__" : Str)) = false)
    (hst : defBody st = [.Expr (.Call (.Attribute (.Name L p1) "__init__" p2) [.Name sf p3, .Constant (.str m) j p4] [] p5) p6, .Assign [.Attribute (.Name sf p7) f1 p8] (.Name a1 p9) p10, .Assign [.Attribute (.Name sf q7) f2 q8] (.Name a2 q9) q10])
    (hg : ∀ cdv A outer s H E p, Gl (L2H.cxH CX0 P w K mg base [sf, a1, a2] qual (defScope st) f cdv A outer s H E p) L) (hl : (p2.endLine == p5.line) = true)
    (v0 : visB (defScope st) sf = true) (v1 : visB (defScope st) a1 = true) (v2 : visB (defScope st) a2 = true)
    (d0 : (sf == ("__debug__" : Str)) = false ∧ (sf == ("__classdict__" : Str)) = false) (d1 : (a1 == ("__debug__" : Str)) = false ∧ (a1 == ("__classdict__" : Str)) = false) (d2 : (a2 == ("__debug__" : Str)) = false ∧ (a2 == ("__classdict__" : Str)) = false) :
    L2H.FnH P w K mg base CX0 1 f fd [sf, a1, a2] (spI2 K f1 f2) := by
  obtain ⟨oc, od, kV, doc, pm, an, cdv, ct, osl, rfl, lk, hcd⟩ := F.ex
  refine L2H.fn_ofH (k := 0) lk hcd Sc (fun vs H Q E h => ?_) fun A outer s H vs Q E p hot hr h => ?_
  · obtain ⟨a, C, y1, y2, rfl, _⟩ := h; rfl
  · obtain ⟨a, C, y1, y2, rfl, T, n1, n2, ea, q⟩ := h
    have V0 := vis_of v0
    have V1 := vis_of v1
    have V2 := vis_of v2
    rw [hst]
    refine ⟨_, pss_cons (ps_expr (pe_baseinit (hg _ _ _ _ _ _ _) hT (pa_cons (pe_var (i := 0) rfl V0 d0.1 d0.2) (pa_cons pe_str pa_nil)) hL (meth_form rfl rfl (by simp) hl) rfl rfl) rfl)
      (pss_cons (ps_ost (pe_var (i := 0) rfl V0 d0.1 d0.2) (pe_var (i := 1) rfl V1 d1.1 d1.2) rfl) (pss_one (ps_ost (pe_var (i := 0) rfl V0 d0.1 d0.2) (pe_var (i := 2) rfl V2 d2.1 d2.2) rfl))), ?_⟩
    refine ⟨_, rfl, a, C, [.str m], rfl, by simp, T, ea, ?_⟩
    refine ⟨_, rfl, _, rfl, a, C, rfl, T, n1, .inl ⟨ea, fun dx hd hne => ?_⟩⟩
    refine ⟨_, rfl, _, rfl, a, C, rfl, T, n2, .inr ⟨dx, [(f1, y1)], upd_same, by rw [upd_ne hne, upd_same], by simp, ?_⟩⟩
    rw [upd_turn hne]
    exact q dx hd hne
end
structure ExcH2 (X : Cx) (x f1 f2 : Str) : Prop where
  ex : ∃ (C fI : Addr) (fd : FuncData) (ps : List Str), X.mg x = some (.ref C) ∧ OexC X.K C ∧ PySem.W.findIn X.K (.ref C) "__init__" = some (some (.ref fI)) ∧ PySem.W.typeIn X.K (.ref fI) = some (.type "function") ∧
    PySem.W.findIn X.K (.ref C) f1 = some none ∧ PySem.W.findIn X.K (.ref C) f2 = some none ∧ Binds X.K fd ps [] ∧ L2H.FnH X.prog X.w X.K X.mg X.base CX0 1 fI fd ps (spI2 X.K f1 f2)
structure XH2 (P : Program) (w : World) (K : PySem.W.Frag) (mg : Str → Option Value) (base : Heap) (x f1 f2 : Str) : Prop where
  ex : ∃ (C fI : Addr) (fd : FuncData) (ps : List Str), mg x = some (.ref C) ∧ OexC K C ∧ PySem.W.findIn K (.ref C) "__init__" = some (some (.ref fI)) ∧ PySem.W.typeIn K (.ref fI) = some (.type "function") ∧
    PySem.W.findIn K (.ref C) f1 = some none ∧ PySem.W.findIn K (.ref C) f2 = some none ∧ Binds K fd ps [] ∧ L2H.FnH P w K mg base CX0 1 fI fd ps (spI2 K f1 f2)
theorem XH2.ok {X : Cx} {x f1 f2 : Str} (h : XH2 X.prog X.w X.K X.mg X.base x f1 f2) : ExcH2 X x f1 f2 := ⟨h.ex⟩
theorem xh2_mk {P : Program} {w : World} {K : PySem.W.Frag} {mg : Str → Option Value} {base : Heap} {x f1 f2 : Str} {fI : Addr} {fd : FuncData} {ps : List Str} (hm : mg x = some (.ref (He.ga K x))) (ho : oxB K x = true) (hf : He.ma K (He.ga K x) "__init__" = fI) (n1 : (He.Fa.noat x f1).ok K = true) (n2 : (He.Fa.noat x f2).ok K = true) (hb : Binds K fd ps []) (Fk : L2H.FnH P w K mg base CX0 1 fI fd ps (spI2 K f1 f2)) : XH2 P w K mg base x f1 f2 := by
  obtain ⟨T, h1, h2⟩ := oxB_ok ho
  subst hf
  exact ⟨⟨_, _, fd, ps, hm, T, h1, h2, He.noat_ok n1, He.noat_ok n2, hb, Fk⟩⟩
section
variable {X : Cx} {W : WX}
theorem evs_raise2H {x f1 f2 : Str} {e1 e2 : Expr} {m1 m2 : M D} {p pos pos' : Pos} (hc : L2H.HotC X) (tk : L2.Takes X W) (hx : ExcH2 X x f1 f2) (hr : L2H.RoomH 2 X.A) (hg : Gl X x) (h1 : EvE X W e1 m1) (h2 : EvE X W e2 m2) (s1 : notStar e1 = true) (s2 : notStar e2 = true) (hdb : (x == ("__debug__" : Str)) = false) :
    EvS X W (.Raise (some (.Call (.Name x p) [e1, e2] [] pos)) none pos') (sRaise2 x f1 f2 m1 m2) := by
  obtain ⟨C, fI, fd, ps, hm, T, iC, tI, n1, n2, hb, Fk⟩ := hx.ex
  refine PS.imp (L2H.ps_raiseH hc tk (L2H.pmk5_oexH T iC tI Fk hr hc hb pass0 hg hm (pa_cons h1.pe (pa_cons h2.pe pa_nil (star_of s2)) (star_of s1)) hdb (star_of s1) (by rw [star_of s2]; rfl)).pmk) fun E σ H ⟨μ, S, ρ, R, En, G⟩ => ?_
  unfold sRaise2 at G
  refine tms1 R En G fun d1 S1 v1 μ1 H1 e1 st1 x1 R1 E1 G1 => ?_
  refine tms1 R1 E1 G1 fun d2 S2 v2 μ2 H2 e2 st2 x2 R2 E2 G2 => ?_
  split at G2
  · rename_i hcell
    refine ⟨by simp, fun a ha => ⟨a, C, v1, v2, rfl, T, n1, n2, upd_same, fun dx hd hne => ?_⟩⟩
    have hdx : H2 dx = none := by rw [upd_ne hne] at hd; exact hd
    refine ⟨rfl, dx, [(f2, v2), (f1, v1)], upd_same, by rw [upd_ne hne, upd_same], hdx, ?_⟩
    rw [del_turn hne ha]
    have st := Step.fresh (o := .xd [(f2, v2), (f1, v1)]) R2 hdx
    have y1 := (x1.step R1 st2).rep hcell.1
    have y2 := x2.rep hcell.2
    exact G2 (.ref C) (some dx) σ μ2 _ st (E2.step R2 st) ⟨C, hm, rfl, [v2, v1], upd_same, rfl, RepL.cons (st.rep R2 y2) (RepL.cons (st.rep R2 y1) RepL.nil)⟩
  · exact G2.elim
end
section
variable {X : Cx} {W : WX}
theorem evs_tryAsX {x n : Str} {c : Value} {i : Nat} {body suite : List Stmt} {b0 : Stmt} {np pos pos' : Pos} {isx : Str → Option Bool} {mb : MS} {ms : MX} (hs : X.stack = X.env :: X.outer) (hf : X.env.frame = some X.env.locals) (hN : X.N.Nodup) (hi0 : X.N[i]? = some n) (hln : X.env.kindOf n = some .local) (hc : Names X x c) (tk : L2.Takes X W)
    (hi : ∀ c' b C', isx c' = some b → X.mg c' = some (.ref C') → PySem.W.exmOne X.K (.ref C') c = some b)
    (hb : ∀ (W : WX) (pn : List (Addr × Obj)) (xe : Value → Shared → Prop), L2.Takes (X.tr pn xe) W → PassesOwn (model X.prog X.w) X.A X.env xe → EvSs (X.tr pn xe) W body mb)
    (hsu : ∀ (a : Addr) (oe : Obj) (d : Option Addr) (pn : List (Addr × Obj)) (c' : Str) (D : Addr), X.mg c' = some (.ref D) → Zc (.ref D) d oe → (∃ vs, oe.data = .fields vs) → EvSs (X.suite a ((a, oe) :: pn)) W (b0 :: suite) (ms a d c')) :
    EvS X W (.Try body [.ExceptHandler (some (.Name x np)) (some n) (b0 :: suite) pos'] [] [] pos) (sTryAs isx i mb ms) := by
  refine PS.imp (L2.ps_try_as (i := i) hs hf hN hi0 hln hc tk (tb := fun W => TMs X W mb) (ts := fun a cls d D σ H => ∃ c' C', X.mg c' = some (.ref C') ∧ cls = .ref C' ∧ TMs X W (ms a d c') D σ H) (fun W pn xe t p => hb W pn xe t p) (fun a oe cls d pn hz hfl => ?_)) fun E σ H ⟨μ, S, ρ, R, En, G⟩ => ?_
  · refine ⟨fun pins s σ H D I ⟨c', C', h1, h2, h3⟩ => ?_⟩
    subst h2
    exact (hsu a oe d pn c' C' h1 hz hfl).run pins s σ H D I h3
  refine ⟨μ, S, ρ, R, En, ?_⟩
  unfold sTryAs at G
  cases hm : mb ρ S with
  | exc c' ks ds ρ1 S1 =>
    rw [hm] at G
    intro cls dx σ' μ' H' st En' xr
    obtain ⟨C', g1, e1, h2⟩ := id xr
    subst e1
    dsimp only at G
    cases hq : isx c' with
    | none => rw [hq] at G; exact G.elim
    | some b =>
      rw [hq] at G
      refine ⟨b, hi c' b C' hq g1, fun eb a ha => ?_, fun eb => ?_⟩
      · subst eb
        dsimp only at G
        unfold asOut at G
        split at G
        · rename_i hh
          have hsp := hh.choose_spec a dx (fun e => by subst e; exact h2.2)
          refine ⟨c', C', g1, rfl, μ', S1, ρ1.set i (some (.exn a dx ks ds)), st.rel, En'.set i ?_, unb_good (W := W) (i := i) (E := E) ?_⟩
          · unfold Rep
            refine ⟨rfl, fun e => ?_, fun x hx => ?_⟩
            · subst e; exact h2.2
            · subst hx
              exact h2
          · rw [hsp]
            exact GoodS.back R st G
        · exact G.elim
      · subst eb
        exact G (.ref C') dx σ' μ' H' st En' xr
  | next _ _ => rw [hm] at G; exact G
  | brk _ _ => rw [hm] at G; exact G
  | cont _ _ => rw [hm] at G; exact G
  | ret _ _ => rw [hm] at G; exact G
  | fail => rw [hm] at G; exact G.elim
theorem evs_tryAsXT {x n : Str} {i : Nat} {l : List (Str × Bool)} {body suite : List Stmt} {b0 : Stmt} {np pos pos' : Pos} {mb : MS} {ms : MX} (hs : X.stack = X.env :: X.outer) (hf : X.env.frame = some X.env.locals) (hN : X.N.Nodup) (hi0 : X.N[i]? = some n) (hln : X.env.kindOf n = some .local) (hg : Gl X x) (hd : (x == ("__debug__" : Str)) = false) (h : HdT X.K X.mg x l) (tk : L2.Takes X W)
    (hb : ∀ (W : WX) (pn : List (Addr × Obj)) (xe : Value → Shared → Prop), L2.Takes (X.tr pn xe) W → PassesOwn (model X.prog X.w) X.A X.env xe → EvSs (X.tr pn xe) W body mb)
    (hsu : ∀ (a : Addr) (oe : Obj) (d : Option Addr) (pn : List (Addr × Obj)) (c' : Str) (D : Addr), X.mg c' = some (.ref D) → Zc (.ref D) d oe → (∃ vs, oe.data = .fields vs) → EvSs (X.suite a ((a, oe) :: pn)) W (b0 :: suite) (ms a d c')) :
    EvS X W (.Try body [.ExceptHandler (some (.Name x np)) (some n) (b0 :: suite) pos'] [] [] pos) (sTryAs (isxOf l) i mb ms) := by
  obtain ⟨C, hm, hx⟩ := h.ex
  exact evs_tryAsX hs hf hN hi0 hln ⟨hg, hd, .inl hm⟩ tk (fun c' b C' e g => hx.ok c' b C' e g) hb hsu
end
theorem cx_falseX {P : Program} {w : World} {H : Hp} {s : Shared} {e : Value} {s' : Shared} (h : L2.CX P w [] H s (fun _ _ _ => False) e s') : False := by
  obtain ⟨_, _, _, _, _, _, _, _, _, _, _, _, z⟩ := h
  exact z
theorem walk_xX {l : PySem.W.OpenLaw} {q : Program} {loose : List Str} {XP : (Str → Option Value) → Heap → Prop} {YP : World → Heap → Prop} {d : DefRec} {x : Str} {k : Nat} (hn : l.most = some 63) (hdf : d.params.defaults = []) (hr : Room k callerA)
    (F : ∀ (w : World) (mg : Str → Option Value) (fa : Addr) (h : Heap), YP w h → h.Ns mainGlobals mg → mg d.name = some (.ref fa) →
      ∃ (K : PySem.W.Frag) (fd : FuncData), K.In h ∧ (∀ (s : Shared) (u : Value), BindsTo s fd ⟨[u], []⟩ [(x, u)]) ∧ ∀ base : Heap, K.In base → base.Ns mainGlobals mg → FnOk l.prog w K mg base (L2.CX l.prog w) k fa fd [x] (spLaw K)) :
    PySem.W.WalkO q loose XP YP l.row.toRowW d [] (fun f vs => PySem.call f vs) := by
  refine Att.attach_callB (n := 63) hn hdf fun w s₀ s₁ mg mb fa o pm cd doc a vs ns G Y ho hd hcd hmg hobj hints hlen hbits hg => ?_
  obtain ⟨K, fd, KX, hb, hF⟩ := F w mg fa _ Y G.T.g hmg
  exact law_call KX G.T.g G.T.b G.T.builtins G.T.nolimit hg hobj hints (Nat.le_trans hlen (by decide)) hr hF hb (fun H hO hS => ⟨a, ns, rfl, hS, hO, hlen, hbits, fun _ => rfl⟩) fun H e s' z => cx_falseX z
end Ev
set_option maxHeartbeats 2000000
namespace Ev.K17
open PySem PySem.Spec PyProof.Rows L2 Ev
def tb_FORMS : List (Str × Option D) := [("put", some (.tup ((["box", "number"] : List Str).map .str))), ("copy", some (.tup ((["box", "box"] : List Str).map .str))), ("raise", some (.tup ((["box", "number"] : List Str).map .str))), ("sum", some (.tup ((["box", "box"] : List Str).map .str))), ("choose", some (.tup ((["box", "amount"] : List Str).map .str))), ("less", some (.tup ((["box", "number", "place"] : List Str).map .str))), ("before", some (.tup ((["box", "box", "place"] : List Str).map .str))), ("go", some (.tup ((["place"] : List Str).map .str))), ("me", some (.tup ((["box"] : List Str).map .str))), ("only", some (.tup ((["box", "single"] : List Str).map .str))), ("pick", some (.tup ((["box", "role"] : List Str).map .str))), ("alike", some (.tup ((["box", "box", "place"] : List Str).map .str))), ("all", some (.tup ((["set", "role"] : List Str).map .str))), ("empty", some (.tup ((["set"] : List Str).map .str))), ("join", some (.tup ((["set", "box"] : List Str).map .str))), ("out", some (.tup ((["box", "set", "place"] : List Str).map .str))), ("many", some (.tup ((["set", "crowd", "place"] : List Str).map .str))), ("send", some (.tup ((["box", "kind", "box", "box"] : List Str).map .str))), ("take", some (.tup ((["from", "lines"] : List Str).map .str))), ("bell", some (.tup (([] : List Str).map .str)))]
def x_NoProgram : List (Str × Bool) := [("NoProgram", true), ("NoStep", false)]
def x_NoStep : List (Str × Bool) := [("NoProgram", false), ("NoStep", true)]
def xf_place : List Str := ["NoProgram"]
def xf_role : List Str := ["NoProgram"]
noncomputable def m__law_cell_at : MS :=
  (sSeq (sIf (mTru (mBin (cmpD .Lt) (mVar 1) (mBlt (bltD .len) (mCons (mVar 0) mNil))))
  (sRet (mBin idxD (mVar 0) (mVar 1)))
  sNext)
  (sRet (mLit (.int 0))))
noncomputable def f__law_cell_at : Fn := runBody m__law_cell_at 2
noncomputable def m__law_digit : MS :=
  (sSeq (sIf (mTru (mBin (cmpD .Eq) (mBlt (bltD .len) (mCons (mVar 0) mNil)) (mLit (.int 1))))
  (sExpr (mExt (mVar 0) (mLst (mCons (mBin (binD .Mod) (mBin idxD (mVar 0) (mLit (.int 0))) (mLit (.int 2147483647))) (mCons (mLit (.int 0)) mNil)))))
  sNext)
  (sSeq (sIf (mTru (mBin (cmpD .Gt) (mBin idxD (mVar 0) (mLit (.int 0))) (mLit (.int 0))))
  (sSeq (sAsg (bName 2) (mBin (binD .Mod) (mBin idxD (mVar 0) (mLit (.int 0))) (mVar 1)))
  (sSeq (sSub (mBin (binD .FloorDiv) (mBin idxD (mVar 0) (mLit (.int 0))) (mVar 1)) (mVar 0) (mLit (.int 0)))
  (sRet (mVar 2))))
  sNext)
  (sSeq (sSub (mBin (binD .Add) (mBin idxD (mVar 0) (mLit (.int 2))) (mLit (.int 1))) (mVar 0) (mLit (.int 2)))
  (sSeq (sAsg (bName 3) (mBin (binD .Mod) (mBin (binD .Mult) (mBin (binD .Add) (mBin (binD .Add) (mBin idxD (mVar 0) (mLit (.int 1))) (mBin (binD .Mult) (mLit (.int 7919)) (mBin idxD (mVar 0) (mLit (.int 2))))) (mLit (.int 1))) (mLit (.int 48271))) (mLit (.int 2147483647))))
  (sSeq (sAsg (bName 3) (mBin (binD .Mod) (mBin (binD .Mult) (mVar 3) (mBin (binD .Add) (mBin (binD .FloorDiv) (mVar 3) (mLit (.int 1009))) (mLit (.int 69621)))) (mLit (.int 2147483647))))
  (sRet (mBin (binD .Mod) (mBin (binD .Mod) (mBin (binD .Mult) (mVar 3) (mBin (binD .Add) (mBin (binD .FloorDiv) (mVar 3) (mLit (.int 2003))) (mLit (.int 40692)))) (mLit (.int 2147483399))) (mVar 1))))))))
noncomputable def f__law_digit : Fn := runBody m__law_digit 4
noncomputable def q__law_hands_1 : M D := mComp [2] (bName 2) (mRange1 (mBin (binD .Add) (mLit (.int 1)) (mCall 2 f__law_digit (mCons (mVar 0) (mCons (mLit (.int 6)) mNil))))) (mEndT true) (mCall 2 f__law_digit (mCons (mVar 0) (mCons (mVar 1) mNil)))
noncomputable def m__law_hands : MS :=
  (sRet (mBlt (bltD .tuple) (mCons (mBlt (bltD .sorted) (mCons q__law_hands_1 mNil)) mNil)))
noncomputable def f__law_hands : Fn := runBody m__law_hands 3
noncomputable def q__law_on_names_1 : M D := mComp [7] (bName 7) (mRange1 (mBlt (bltD .len) (mCons (mVar 3) mNil))) (mTru (mBin (cmpD .Eq) (mBin idxD (mVar 3) (mVar 7)) (mLit (.int 1)))) (mVar 7)
noncomputable def m__law_on_names : MS :=
  (sSeq (sAsg (bName 4) (mCall 2 f__law_digit (mCons (mVar 0) (mCons (mLit (.int 3)) mNil))))
  (sSeq (sIf (mTru (mBin (cmpD .Eq) (mVar 1) (mLit (.str "me"))))
  (sRet (mTup (mCons (mLit (.str "me")) (mCons (mVar 4) mNil))))
  sNext)
  (sSeq (sIf (mTru (mBin (cmpD .Eq) (mVar 1) (mLit (.str "only"))))
  (sSeq (sAsg (bName 5) q__law_on_names_1)
  (sSeq (sIf (mTru (mBin (cmpD .Eq) (mVar 5) (mLst mNil)))
  (sRet (mTup (mCons (mLit (.str "me")) (mCons (mVar 4) mNil))))
  sNext)
  (sRet (mTup (mCons (mLit (.str "only")) (mCons (mVar 4) (mCons (mBin idxD (mVar 5) (mCall 2 f__law_digit (mCons (mVar 0) (mCons (mBlt (bltD .len) (mCons (mVar 5) mNil)) mNil)))) mNil)))))))
  sNext)
  (sSeq (sIf (mTru (mBin (cmpD .Eq) (mVar 1) (mLit (.str "pick"))))
  (sRet (mTup (mCons (mLit (.str "pick")) (mCons (mVar 4) (mCons (mCall 2 f__law_digit (mCons (mVar 0) (mCons (mBlt (bltD .len) (mCons (mVar 3) mNil)) mNil))) mNil)))))
  sNext)
  (sSeq (sIf (mTru (mBin (cmpD .Eq) (mVar 1) (mLit (.str "alike"))))
  (sRet (mTup (mCons (mLit (.str "alike")) (mCons (mVar 4) (mCons (mCall 2 f__law_digit (mCons (mVar 0) (mCons (mLit (.int 3)) mNil))) (mCons (mCall 2 f__law_digit (mCons (mVar 0) (mCons (mBin (binD .Add) (mVar 2) (mLit (.int 1))) mNil))) mNil))))))
  sNext)
  (sSeq (sAsg (bName 6) (mCall 2 f__law_digit (mCons (mVar 0) (mCons (mLit (.int 2)) mNil))))
  (sSeq (sIf (mTru (mBin (cmpD .Eq) (mVar 1) (mLit (.str "all"))))
  (sRet (mTup (mCons (mLit (.str "all")) (mCons (mVar 6) (mCons (mCall 2 f__law_digit (mCons (mVar 0) (mCons (mBlt (bltD .len) (mCons (mVar 3) mNil)) mNil))) mNil)))))
  sNext)
  (sSeq (sIf (mTru (mBin (cmpD .Eq) (mVar 1) (mLit (.str "empty"))))
  (sRet (mTup (mCons (mLit (.str "empty")) (mCons (mVar 6) mNil))))
  sNext)
  (sSeq (sIf (mTru (mBin (cmpD .Eq) (mVar 1) (mLit (.str "join"))))
  (sRet (mTup (mCons (mLit (.str "join")) (mCons (mVar 6) (mCons (mVar 4) mNil)))))
  sNext)
  (sSeq (sIf (mTru (mBin (cmpD .Eq) (mVar 1) (mLit (.str "out"))))
  (sRet (mTup (mCons (mLit (.str "out")) (mCons (mVar 4) (mCons (mVar 6) (mCons (mCall 2 f__law_digit (mCons (mVar 0) (mCons (mBin (binD .Add) (mVar 2) (mLit (.int 1))) mNil))) mNil))))))
  sNext)
  (sRet (mTup (mCons (mLit (.str "many")) (mCons (mVar 6) (mCons (mCall 2 f__law_digit (mCons (mVar 0) (mCons (mLit (.int 7)) mNil))) (mCons (mCall 2 f__law_digit (mCons (mVar 0) (mCons (mBin (binD .Add) (mVar 2) (mLit (.int 1))) mNil))) mNil))))))))))))))))
noncomputable def f__law_on_names : Fn := runBody m__law_on_names 8
noncomputable def m__law_number : MS :=
  (sRet (mBin (binD .Sub) (mCall 2 f__law_digit (mCons (mVar 0) (mCons (mBin (binD .Mult) (mLit (.int 2)) (mBin (binD .Pow) (mLit (.int 10)) (mLit (.int 12)))) mNil))) (mBin idxD (mLst (mCons (mLit (.int 0)) (mCons (mBin (binD .Pow) (mLit (.int 10)) (mLit (.int 12))) mNil))) (mCall 2 f__law_digit (mCons (mVar 0) (mCons (mLit (.int 2)) mNil))))))
noncomputable def f__law_number : Fn := runBody m__law_number 1
noncomputable def b__law_lines_1 : MS :=
  (sSeq (sAsg (bName 5) (mPopAt (mVar 2) (mCall 2 f__law_digit (mCons (mVar 0) (mCons (mBlt (bltD .len) (mCons (mVar 2) mNil)) mNil)))))
  (sSeq (sPar 6 7 (mCons (mCall 2 f__law_digit (mCons (mVar 0) (mCons (mLit (.int 3)) mNil))) (mCons (mCall 2 f__law_digit (mCons (mVar 0) (mCons (mLit (.int 3)) mNil))) mNil)))
  (sSeq (sAsg (bName 8) (mBin (binD .Mod) (mBin (binD .Add) (mBin (binD .Add) (mVar 7) (mLit (.int 1))) (mCall 2 f__law_digit (mCons (mVar 0) (mCons (mLit (.int 2)) mNil)))) (mLit (.int 3))))
  (sExpr (mApp (mVar 3) (mTup (mCons (mVar 5) (mCons (mVar 6) (mCons (mVar 7) (mCons (mVar 8) (mCons (mCall 2 f__law_digit (mCons (mVar 0) (mCons (mBin (binD .Add) (mVar 1) (mLit (.int 1))) mNil))) mNil)))))))))))
noncomputable def l__law_lines_1 : MS := sFor (bName 4) (mRange1 (mBin (binD .Add) (mLit (.int 1)) (mBin idxD (mLst (mCons (mCall 2 f__law_digit (mCons (mVar 0) (mCons (mLit (.int 4)) mNil))) (mCons (mCall 2 f__law_digit (mCons (mVar 0) (mCons (mLit (.int 13)) mNil))) mNil))) (mCall 2 f__law_digit (mCons (mVar 0) (mCons (mLit (.int 2)) mNil)))))) b__law_lines_1
noncomputable def m__law_lines : MS :=
  (sSeq (sAsg (bName 2) (mRgL false (mRange1 (mLit (.int 13)))))
  (sSeq (sAsg (bName 3) (mLst mNil))
  (sSeq l__law_lines_1
  (sRet (mBlt (bltD .tuple) (mCons (mVar 3) mNil))))))
noncomputable def f__law_lines : Fn := runBody m__law_lines 9
noncomputable def m__law_step : MS :=
  (sSeq (sAsg (bName 3) (mLst (mCons (mLit (.str "put")) (mCons (mLit (.str "copy")) (mCons (mLit (.str "raise")) (mCons (mLit (.str "sum")) (mCons (mLit (.str "choose")) (mCons (mLit (.str "less")) (mCons (mLit (.str "before")) (mCons (mLit (.str "go")) (mCons (mLit (.str "bell")) (mCons (mLit (.str "send")) (mCons (mLit (.str "take")) mNil)))))))))))))
  (sSeq (sAsg (bName 3) (mBin (binD .Add) (mVar 3) (mLst (mCons (mLit (.str "me")) (mCons (mLit (.str "only")) (mCons (mLit (.str "pick")) (mCons (mLit (.str "alike")) (mCons (mLit (.str "all")) (mCons (mLit (.str "empty")) (mCons (mLit (.str "join")) (mCons (mLit (.str "out")) (mCons (mLit (.str "many")) mNil))))))))))))
  (sSeq (sAsg (bName 4) (mBin idxD (mVar 3) (mCall 2 f__law_digit (mCons (mVar 0) (mCons (mLit (.int 20)) mNil)))))
  (sSeq (sIf (mTru (mBin (cmpD .In) (mVar 4) (mCut (mVar 3) (mPart (mLit (.int 11))) mNoPart)))
  (sRet (mCall 4 f__law_on_names (mCons (mVar 0) (mCons (mVar 4) (mCons (mVar 1) (mCons (mVar 2) mNil))))))
  sNext)
  (sSeq (sIf (mTru (mBin (cmpD .Eq) (mVar 4) (mLit (.str "bell"))))
  (sRet (mTup (mCons (mLit (.str "bell")) mNil)))
  sNext)
  (sSeq (sIf (mTru (mBin (cmpD .Eq) (mVar 4) (mLit (.str "go"))))
  (sRet (mTup (mCons (mLit (.str "go")) (mCons (mCall 2 f__law_digit (mCons (mVar 0) (mCons (mBin (binD .Add) (mVar 1) (mLit (.int 1))) mNil))) mNil))))
  sNext)
  (sSeq (sAsg (bName 5) (mCall 2 f__law_digit (mCons (mVar 0) (mCons (mLit (.int 3)) mNil))))
  (sSeq (sIf (mOrT (mTru (mBin (cmpD .Eq) (mVar 4) (mLit (.str "put")))) (mOrT (mTru (mBin (cmpD .Eq) (mVar 4) (mLit (.str "raise")))) (mEndT false)))
  (sRet (mTup (mCons (mVar 4) (mCons (mVar 5) (mCons (mCall 1 f__law_number (mCons (mVar 0) mNil)) mNil)))))
  sNext)
  (sSeq (sIf (mOrT (mTru (mBin (cmpD .Eq) (mVar 4) (mLit (.str "copy")))) (mOrT (mTru (mBin (cmpD .Eq) (mVar 4) (mLit (.str "sum")))) (mEndT false)))
  (sRet (mTup (mCons (mVar 4) (mCons (mVar 5) (mCons (mCall 2 f__law_digit (mCons (mVar 0) (mCons (mLit (.int 3)) mNil))) mNil)))))
  sNext)
  (sSeq (sIf (mTru (mBin (cmpD .Eq) (mVar 4) (mLit (.str "choose"))))
  (sRet (mTup (mCons (mLit (.str "choose")) (mCons (mVar 5) (mCons (mBin (binD .Add) (mLit (.int 1)) (mCall 2 f__law_digit (mCons (mVar 0) (mCons (mLit (.int 20)) mNil)))) mNil)))))
  sNext)
  (sSeq (sIf (mTru (mBin (cmpD .Eq) (mVar 4) (mLit (.str "less"))))
  (sRet (mTup (mCons (mLit (.str "less")) (mCons (mVar 5) (mCons (mCall 1 f__law_number (mCons (mVar 0) mNil)) (mCons (mCall 2 f__law_digit (mCons (mVar 0) (mCons (mBin (binD .Add) (mVar 1) (mLit (.int 1))) mNil))) mNil))))))
  sNext)
  (sSeq (sIf (mTru (mBin (cmpD .Eq) (mVar 4) (mLit (.str "before"))))
  (sRet (mTup (mCons (mLit (.str "before")) (mCons (mVar 5) (mCons (mCall 2 f__law_digit (mCons (mVar 0) (mCons (mLit (.int 3)) mNil))) (mCons (mCall 2 f__law_digit (mCons (mVar 0) (mCons (mBin (binD .Add) (mVar 1) (mLit (.int 1))) mNil))) mNil))))))
  sNext)
  (sSeq (sIf (mTru (mBin (cmpD .Eq) (mVar 4) (mLit (.str "send"))))
  (sRet (mTup (mCons (mLit (.str "send")) (mCons (mVar 5) (mCons (mBin (binD .Add) (mLit (.int 1)) (mCall 2 f__law_digit (mCons (mVar 0) (mCons (mLit (.int 12)) mNil)))) (mCons (mCall 2 f__law_digit (mCons (mVar 0) (mCons (mLit (.int 3)) mNil))) (mCons (mCall 2 f__law_digit (mCons (mVar 0) (mCons (mLit (.int 3)) mNil))) mNil)))))))
  sNext)
  (sRet (mTup (mCons (mLit (.str "take")) (mCons (mBin (binD .Sub) (mVar 5) (mBin (binD .Mult) (mCall 2 f__law_digit (mCons (mVar 0) (mCons (mLit (.int 2)) mNil))) (mBin (binD .Add) (mVar 5) (mLit (.int 1))))) (mCons (mCall 2 f__law_lines (mCons (mVar 0) (mCons (mVar 1) mNil))) mNil))))))))))))))))))
noncomputable def f__law_step : Fn := runBody m__law_step 6
noncomputable def q__law_program_1 : M D := mComp [15] (bName 15) (mIter (mVar 5)) (mTru (mBin (cmpD .Eq) (mVar 15) (mVar 9))) (mVar 15)
noncomputable def q__law_program_2 : M D := mComp [9] (bName 9) (mRange1 (mVar 2)) (mEndT true) (mBlt (bltD .len) (mCons q__law_program_1 mNil))
noncomputable def q__law_program_3 : M D := mComp [13] (bName 13) (mIter (mCut (mVar 0) (mPart (mLit (.int 1))) (mPart (mLit (.int 61))))) (mEndT true) (mBin (binD .Mod) (mVar 13) (mVar 2))
noncomputable def q__law_program_5 : M D := mComp [14] (bName 14) (mIter (mVar 7)) (mTru (mBin (cmpD .Eq) (mVar 14) (mVar 9))) (mVar 14)
noncomputable def b__law_program_6 : MS :=
  (sIf (mTru (mBin (cmpD .Eq) (mBin idxD (mVar 7) (mVar 12)) (mVar 9)))
  (sExpr (mApp (mVar 11) (mCall 3 f__law_step (mCons (mLst (mCons (mBin (binD .FloorDiv) (mBin idxD (mVar 0) (mBin (binD .Add) (mLit (.int 1)) (mVar 12))) (mVar 2)) mNil)) (mCons (mVar 10) (mCons (mVar 6) mNil))))))
  sNext)
noncomputable def l__law_program_6 : MS := sFor (bName 12) (mRange1 (mBlt (bltD .len) (mCons (mVar 7) mNil))) b__law_program_6
noncomputable def b__law_program_4 : MS :=
  (sSeq (sAsg (bName 10) (mBlt (bltD .len) (mCons q__law_program_5 mNil)))
  (sSeq (sAsg (bName 11) (mLst mNil))
  (sSeq l__law_program_6
  (sExpr (mApp (mVar 8) (mBlt (bltD .tuple) (mCons (mVar 11) mNil)))))))
noncomputable def l__law_program_4 : MS := sFor (bName 9) (mRange1 (mVar 2)) b__law_program_4
noncomputable def m__law_program : MS :=
  (sSeq (sAsg (bName 1) (mLst (mCons (mCall 2 f__law_cell_at (mCons (mVar 0) (mCons (mLit (.int 0)) mNil))) mNil)))
  (sSeq (sAsg (bName 2) (mBin (binD .Add) (mLit (.int 1)) (mCall 2 f__law_digit (mCons (mVar 1) (mCons (mLit (.int 6)) mNil)))))
  (sSeq (sAsg (bName 3) (mBin (binD .Add) (mLit (.int 1)) (mCall 2 f__law_digit (mCons (mVar 1) (mCons (mLit (.int 10)) mNil)))))
  (sSeq (sAsg (bName 4) (mTup (mCons (mCall 2 f__law_digit (mCons (mVar 1) (mCons (mLit (.int 6)) mNil))) (mCons (mCall 2 f__law_digit (mCons (mVar 1) (mCons (mLit (.int 6)) mNil))) mNil))))
  (sSeq (sAsg (bName 5) (mCall 2 f__law_hands (mCons (mVar 1) (mCons (mVar 2) mNil))))
  (sSeq (sAsg (bName 6) (mBlt (bltD .tuple) (mCons q__law_program_2 mNil)))
  (sSeq (sAsg (bName 7) q__law_program_3)
  (sSeq (sAsg (bName 8) (mLst mNil))
  (sSeq l__law_program_4
  (sRet (mTup (mCons (mVar 3) (mCons (mVar 4) (mCons (mBlt (bltD .tuple) (mCons (mVar 8) mNil)) (mCons (mVar 5) mNil)))))))))))))))
noncomputable def f__law_program : Fn := runBody m__law_program 16
noncomputable def b__law_spots_2 : MS :=
  (sExpr (mApp (mVar 1) (mTup (mCons (mVar 2) (mCons (mVar 3) mNil)))))
noncomputable def l__law_spots_2 : MS := sFor (bName 3) (mRange1 (mBlt (bltD .len) (mCons (mBin idxD (mBin idxD (mVar 0) (mLit (.int 2))) (mVar 2)) mNil))) b__law_spots_2
noncomputable def b__law_spots_1 : MS :=
  l__law_spots_2
noncomputable def l__law_spots_1 : MS := sFor (bName 2) (mRange1 (mBlt (bltD .len) (mCons (mBin idxD (mVar 0) (mLit (.int 2))) mNil))) b__law_spots_1
noncomputable def m__law_spots : MS :=
  (sSeq (sAsg (bName 1) (mLst mNil))
  (sSeq l__law_spots_1
  (sRet (mVar 1))))
noncomputable def f__law_spots : Fn := runBody m__law_spots 4
noncomputable def m__law_bad : MS :=
  (sSeq (sAsg (bName 3) (mLst (mCons (mTup (mCons (mLit (.str "put")) (mCons (mLit (.int 3)) (mCons (mLit (.int 0)) mNil)))) (mCons (mTup (mCons (mLit (.str "go")) (mCons (mLit (.int 61)) mNil))) (mCons (mTup (mCons (mLit (.str "bell")) (mCons (mLit (.int 0)) mNil))) (mCons (mLit (.int 5)) (mCons (mTup (mCons (mLit (.str "take")) (mCons (mLit (.int 0)) (mCons (mTup mNil) mNil)))) (mCons (mTup (mCons (mLit (.str "only")) (mCons (mLit (.int 0)) (mCons (mLit (.int 6)) mNil)))) (mCons (mTup (mCons (mLit (.str "choose")) (mCons (mLit (.int 0)) (mCons (mLit (.int 0)) mNil)))) (mCons (mTup mNil) mNil))))))))))
  (sSeq (sAsg (bName 4) (mBin idxD (mBin idxD (mVar 0) (mLit (.int 2))) (mBin idxD (mVar 1) (mLit (.int 0)))))
  (sSeq (sAsg (bName 4) (mBin (binD .Add) (mBin (binD .Add) (mCut (mVar 4) mNoPart (mPart (mBin idxD (mVar 1) (mLit (.int 1))))) (mTup (mCons (mBin idxD (mVar 3) (mBin (binD .Mod) (mVar 2) (mLit (.int 8)))) mNil))) (mCut (mVar 4) (mPart (mBin (binD .Add) (mBin idxD (mVar 1) (mLit (.int 1))) (mLit (.int 1)))) mNoPart)))
  (sRet (mTup (mCons (mBin idxD (mVar 0) (mLit (.int 0))) (mCons (mBin idxD (mVar 0) (mLit (.int 1))) (mCons (mBin (binD .Add) (mBin (binD .Add) (mCut (mBin idxD (mVar 0) (mLit (.int 2))) mNoPart (mPart (mBin idxD (mVar 1) (mLit (.int 0))))) (mTup (mCons (mVar 4) mNil))) (mCut (mBin idxD (mVar 0) (mLit (.int 2))) (mPart (mBin (binD .Add) (mBin idxD (mVar 1) (mLit (.int 0))) (mLit (.int 1)))) mNoPart)) (mCons (mBin idxD (mVar 0) (mLit (.int 3))) mNil)))))))))
noncomputable def f__law_bad : Fn := runBody m__law_bad 5
noncomputable def m_is_tuple_of : MS :=
  (sRet (mAndV (mIsi .tuple (mVar 0)) (mChain (cmpD .LtE) (cmpD .LtE) (mVar 1) (mBlt (bltD .len) (mCons (mVar 0) mNil)) (mVar 2))))
noncomputable def f_is_tuple_of : Fn := runBody m_is_tuple_of 3
noncomputable def m_is_whole : MS :=
  (sRet (mAndV (mIsi .int (mVar 0)) (mNotV (mIsi .bool (mVar 0)))))
noncomputable def f_is_whole : Fn := runBody m_is_whole 1
noncomputable def m_is_from : MS :=
  (sRet (mAndV (mCall 1 f_is_whole (mCons (mVar 0) mNil)) (mChain (cmpD .LtE) (cmpD .LtE) (mVar 1) (mVar 0) (mVar 2))))
noncomputable def f_is_from : Fn := runBody m_is_from 3
noncomputable def q_is_rising_1 : M D := mComp [1] (bName 1) (mRange2 (mLit (.int 1)) (mBlt (bltD .len) (mCons (mVar 0) mNil))) (mEndT true) (mBin (cmpD .LtE) (mBin idxD (mVar 0) (mBin (binD .Sub) (mVar 1) (mLit (.int 1)))) (mBin idxD (mVar 0) (mVar 1)))
noncomputable def m_is_rising : MS :=
  (sRet (mBlt (bltD .all) (mCons q_is_rising_1 mNil)))
noncomputable def f_is_rising : Fn := runBody m_is_rising 2
noncomputable def q_is_whole_program_1 : M D := mComp [5] (bName 5) (mIter (mVar 2)) (mEndT true) (mCall 3 f_is_from (mCons (mVar 5) (mCons (mLit (.int 0)) (mCons (mLit (.int 5)) mNil))))
noncomputable def q_is_whole_program_2 : M D := mComp [6] (bName 6) (mIter (mVar 3)) (mEndT true) (mCall 3 f_is_tuple_of (mCons (mVar 6) (mCons (mLit (.int 0)) (mCons (mLit (.int 60)) mNil))))
noncomputable def q_is_whole_program_3 : M D := mComp [7] (bName 7) (mIter (mVar 4)) (mEndT true) (mCall 3 f_is_from (mCons (mVar 7) (mCons (mLit (.int 0)) (mCons (mBin (binD .Sub) (mBlt (bltD .len) (mCons (mVar 3) mNil)) (mLit (.int 1))) mNil))))
noncomputable def m_is_whole_program : MS :=
  (sSeq (sIf (mNotT (mTru (mCall 3 f_is_tuple_of (mCons (mVar 0) (mCons (mLit (.int 4)) (mCons (mLit (.int 4)) mNil))))))
  (sRet (mLit (.bl false)))
  sNext)
  (sSeq (sAsg (bTup (bCons (bName 1) (bCons (bName 2) (bCons (bName 3) (bCons (bName 4) bNil)))) 4) (mVar 0))
  (sSeq (sIf (mOrT (mNotT (mTru (mCall 3 f_is_from (mCons (mVar 1) (mCons (mLit (.int 1)) (mCons (mLit (.int 10)) mNil)))))) (mOrT (mNotT (mTru (mCall 3 f_is_tuple_of (mCons (mVar 2) (mCons (mLit (.int 2)) (mCons (mLit (.int 2)) mNil)))))) (mEndT false)))
  (sRet (mLit (.bl false)))
  sNext)
  (sSeq (sIf (mNotT (mTru (mBlt (bltD .all) (mCons q_is_whole_program_1 mNil))))
  (sRet (mLit (.bl false)))
  sNext)
  (sSeq (sIf (mOrT (mNotT (mTru (mCall 3 f_is_tuple_of (mCons (mVar 3) (mCons (mLit (.int 1)) (mCons (mLit (.int 6)) mNil)))))) (mOrT (mNotT (mTru (mCall 3 f_is_tuple_of (mCons (mVar 4) (mCons (mLit (.int 1)) (mCons (mLit (.int 6)) mNil)))))) (mEndT false)))
  (sRet (mLit (.bl false)))
  sNext)
  (sSeq (sIf (mNotT (mTru (mBlt (bltD .all) (mCons q_is_whole_program_2 mNil))))
  (sRet (mLit (.bl false)))
  sNext)
  (sRet (mAndV (mBlt (bltD .all) (mCons q_is_whole_program_3 mNil)) (mCall 1 f_is_rising (mCons (mVar 4) mNil))))))))))
noncomputable def f_is_whole_program : Fn := runBody m_is_whole_program 8
noncomputable def q_hands_of_1 : M D := mComp [2, 3] (bTup (bCons (bName 2) (bCons (bName 3) bNil)) 2) (mEnum (mBin idxD (mVar 0) (mLit (.int 3)))) (mTru (mBin (cmpD .Eq) (mVar 3) (mVar 1))) (mVar 2)
noncomputable def m_hands_of : MS :=
  (sRet (mBlt (bltD .tuple) (mCons q_hands_of_1 mNil)))
noncomputable def f_hands_of : Fn := runBody m_hands_of 4
noncomputable def q_counts_of_1 : M D := mComp [1] (bName 1) (mRange1 (mBlt (bltD .len) (mCons (mBin idxD (mVar 0) (mLit (.int 2))) mNil))) (mEndT true) (mBlt (bltD .len) (mCons (mCall 2 f_hands_of (mCons (mVar 0) (mCons (mVar 1) mNil))) mNil))
noncomputable def m_counts_of : MS :=
  (sRet (mBlt (bltD .tuple) (mCons q_counts_of_1 mNil)))
noncomputable def f_counts_of : Fn := runBody m_counts_of 2
noncomputable def q_fits_line_1 : M D := mComp [2] (bName 2) (mIter (mCut (mVar 0) (mPart (mLit (.int 1))) (mPart (mLit (.int 4))))) (mEndT true) (mCall 3 f_is_from (mCons (mVar 2) (mCons (mLit (.int 0)) (mCons (mLit (.int 2)) mNil))))
noncomputable def m_fits_line : MS :=
  (sSeq (sIf (mOrT (mNotT (mTru (mIsi .tuple (mVar 0)))) (mOrT (mTru (mBin (cmpD .NotEq) (mBlt (bltD .len) (mCons (mVar 0) mNil)) (mLit (.int 5)))) (mEndT false)))
  (sRet (mLit (.bl false)))
  sNext)
  (sSeq (sIf (mOrT (mNotT (mTru (mCall 3 f_is_from (mCons (mBin idxD (mVar 0) (mLit (.int 0))) (mCons (mLit (.int 0)) (mCons (mLit (.int 12)) mNil)))))) (mOrT (mNotT (mTru (mCall 3 f_is_from (mCons (mBin idxD (mVar 0) (mLit (.int 4))) (mCons (mLit (.int 0)) (mCons (mVar 1) mNil)))))) (mEndT false)))
  (sRet (mLit (.bl false)))
  sNext)
  (sRet (mAndV (mBlt (bltD .all) (mCons q_fits_line_1 mNil)) (mBin (cmpD .NotEq) (mBin idxD (mVar 0) (mLit (.int 2))) (mBin idxD (mVar 0) (mLit (.int 3))))))))
noncomputable def f_fits_line : Fn := runBody m_fits_line 3
noncomputable def q_fits_lines_1 : M D := mComp [2] (bName 2) (mIter (mVar 0)) (mEndT true) (mCall 2 f_fits_line (mCons (mVar 2) (mCons (mVar 1) mNil)))
noncomputable def q_fits_lines_2 : M D := mComp [2] (bName 2) (mIter (mVar 0)) (mEndT true) (mBin idxD (mVar 2) (mLit (.int 0)))
noncomputable def m_fits_lines : MS :=
  (sSeq (sIf (mOrT (mNotT (mTru (mIsi .tuple (mVar 0)))) (mOrT (mTru (mBin (cmpD .Eq) (mVar 0) (mTup mNil))) (mEndT false)))
  (sRet (mLit (.bl false)))
  sNext)
  (sSeq (sIf (mNotT (mTru (mBlt (bltD .all) (mCons q_fits_lines_1 mNil))))
  (sRet (mLit (.bl false)))
  sNext)
  (sRet (mBin (cmpD .Eq) (mLenSet q_fits_lines_2) (mBlt (bltD .len) (mCons (mVar 0) mNil))))))
noncomputable def f_fits_lines : Fn := runBody m_fits_lines 3
noncomputable def m_fits : MS :=
  (sSeq (sIf (mTru (mBin (cmpD .Eq) (mVar 0) (mLit (.str "number"))))
  (sRet (mCall 1 f_is_whole (mCons (mVar 1) mNil)))
  sNext)
  (sSeq (sIf (mTru (mBin (cmpD .Eq) (mVar 0) (mLit (.str "lines"))))
  (sRet (mCall 2 f_fits_lines (mCons (mVar 1) (mCons (mVar 2) mNil))))
  sNext)
  (sSeq (sIf (mTru (mBin (cmpD .Eq) (mVar 0) (mLit (.str "single"))))
  (sRet (mAndV (mCall 3 f_is_from (mCons (mVar 1) (mCons (mLit (.int 0)) (mCons (mBin (binD .Sub) (mBlt (bltD .len) (mCons (mVar 3) mNil)) (mLit (.int 1))) mNil)))) (mBin (cmpD .Eq) (mBin idxD (mVar 3) (mVar 1)) (mLit (.int 1)))))
  sNext)
  (sSeq (sAsg (bName 4) (mDict [.inr "box", .inr "set", .inr "place", .inr "amount", .inr "crowd"] (mDCons (mTup (mCons (mLit (.int 0)) (mCons (mLit (.int 2)) mNil))) (mDCons (mTup (mCons (mLit (.int 0)) (mCons (mLit (.int 1)) mNil))) (mDCons (mTup (mCons (mLit (.int 0)) (mCons (mVar 2) mNil))) (mDCons (mTup (mCons (mLit (.int 1)) (mCons (mLit (.int 20)) mNil))) (mDCons (mTup (mCons (mLit (.int 0)) (mCons (mLit (.int 6)) mNil))) mDNil)))))))
  (sSeq (sExpr (mUpd (mVar 4) (mDict [.inr "kind", .inr "from", .inr "role"] (mDCons (mTup (mCons (mLit (.int 1)) (mCons (mLit (.int 12)) mNil))) (mDCons (mTup (mCons (mNeg (mLit (.int 1))) (mCons (mLit (.int 2)) mNil))) (mDCons (mTup (mCons (mLit (.int 0)) (mCons (mBin (binD .Sub) (mBlt (bltD .len) (mCons (mVar 3) mNil)) (mLit (.int 1))) mNil))) mDNil))))))
  (sRet (mCall 3 f_is_from (mCons (mVar 1) (mCons (mBin idxD (mBin dgetD (mVar 4) (mVar 0)) (mLit (.int 0))) (mCons (mBin idxD (mBin dgetD (mVar 4) (mVar 0)) (mLit (.int 1))) mNil))))))))))
noncomputable def f_fits : Fn := runBody m_fits 5
noncomputable def b_sure_1 : MS :=
  (sIf (mNotT (mTru (mCall 4 f_fits (mCons (mVar 4) (mCons (mVar 5) (mCons (mVar 1) (mCons (mVar 2) mNil)))))))
  (sRaise "NoStep")
  sNext)
noncomputable def l_sure_1 : MS := sFor (bTup (bCons (bName 4) (bCons (bName 5) bNil)) 2) (mZip (mVar 3) (mCut (mVar 0) (mPart (mLit (.int 1))) mNoPart)) b_sure_1
noncomputable def m_sure : MS :=
  (sSeq (sIf (mOrT (mNotT (mTru (mIsi .tuple (mVar 0)))) (mOrT (mTru (mBin (cmpD .Eq) (mVar 0) (mTup mNil))) (mOrT (mNotT (mTru (mIsi .str (mBin idxD (mVar 0) (mLit (.int 0)))))) (mOrT (mTru (mUn (cinD true tb_FORMS) (mBin idxD (mVar 0) (mLit (.int 0))))) (mEndT false)))))
  (sRaise "NoStep")
  sNext)
  (sSeq (sAsg (bName 3) (mUn (cgetD tb_FORMS) (mBin idxD (mVar 0) (mLit (.int 0)))))
  (sSeq (sIf (mTru (mBin (cmpD .NotEq) (mBlt (bltD .len) (mCons (mVar 0) mNil)) (mBin (binD .Add) (mBlt (bltD .len) (mCons (mVar 3) mNil)) (mLit (.int 1)))))
  (sRaise "NoStep")
  sNext)
  l_sure_1)))
noncomputable def f_sure : Fn := runBody m_sure 6
noncomputable def m_Step___init__ : MS :=
  (sFldE (inB ["Send", "Take", "Bell", "Put", "Copy", "Raise", "Sum", "Choose", "Go", "Less", "Before", "Me", "Only", "Pick", "Alike", "All", "Empty", "Join", "Out", "Many"]) "form" (mVar 1) (mVar 0))
noncomputable def f_Step___init__ : Fn := runBody m_Step___init__ 2
noncomputable def m_number_step : MS :=
  (sSeq (sAsg (bName 1) (mBin idxD (mVar 0) (mLit (.int 0))))
  (sSeq (sIf (mTru (mBin (cmpD .Eq) (mVar 1) (mLit (.str "put"))))
  (sRet (mMake "Put" 2 f_Step___init__ (mCons (mVar 0) mNil)))
  sNext)
  (sSeq (sIf (mTru (mBin (cmpD .Eq) (mVar 1) (mLit (.str "copy"))))
  (sRet (mMake "Copy" 2 f_Step___init__ (mCons (mVar 0) mNil)))
  sNext)
  (sSeq (sIf (mTru (mBin (cmpD .Eq) (mVar 1) (mLit (.str "raise"))))
  (sRet (mMake "Raise" 2 f_Step___init__ (mCons (mVar 0) mNil)))
  sNext)
  (sSeq (sIf (mTru (mBin (cmpD .Eq) (mVar 1) (mLit (.str "sum"))))
  (sRet (mMake "Sum" 2 f_Step___init__ (mCons (mVar 0) mNil)))
  sNext)
  (sSeq (sIf (mTru (mBin (cmpD .Eq) (mVar 1) (mLit (.str "choose"))))
  (sRet (mMake "Choose" 2 f_Step___init__ (mCons (mVar 0) mNil)))
  sNext)
  (sSeq (sIf (mTru (mBin (cmpD .Eq) (mVar 1) (mLit (.str "less"))))
  (sRet (mMake "Less" 2 f_Step___init__ (mCons (mVar 0) mNil)))
  sNext)
  (sSeq (sIf (mTru (mBin (cmpD .Eq) (mVar 1) (mLit (.str "before"))))
  (sRet (mMake "Before" 2 f_Step___init__ (mCons (mVar 0) mNil)))
  sNext)
  (sSeq (sIf (mTru (mBin (cmpD .Eq) (mVar 1) (mLit (.str "go"))))
  (sRet (mMake "Go" 2 f_Step___init__ (mCons (mVar 0) mNil)))
  sNext)
  (sRet (mLit .non)))))))))))
noncomputable def f_number_step : Fn := runBody m_number_step 2
noncomputable def m_name_step : MS :=
  (sSeq (sAsg (bName 1) (mBin idxD (mVar 0) (mLit (.int 0))))
  (sSeq (sIf (mTru (mBin (cmpD .Eq) (mVar 1) (mLit (.str "me"))))
  (sRet (mMake "Me" 2 f_Step___init__ (mCons (mVar 0) mNil)))
  sNext)
  (sSeq (sIf (mTru (mBin (cmpD .Eq) (mVar 1) (mLit (.str "only"))))
  (sRet (mMake "Only" 2 f_Step___init__ (mCons (mVar 0) mNil)))
  sNext)
  (sSeq (sIf (mTru (mBin (cmpD .Eq) (mVar 1) (mLit (.str "pick"))))
  (sRet (mMake "Pick" 2 f_Step___init__ (mCons (mVar 0) mNil)))
  sNext)
  (sSeq (sIf (mTru (mBin (cmpD .Eq) (mVar 1) (mLit (.str "alike"))))
  (sRet (mMake "Alike" 2 f_Step___init__ (mCons (mVar 0) mNil)))
  sNext)
  (sSeq (sIf (mTru (mBin (cmpD .Eq) (mVar 1) (mLit (.str "all"))))
  (sRet (mMake "All" 2 f_Step___init__ (mCons (mVar 0) mNil)))
  sNext)
  (sSeq (sIf (mTru (mBin (cmpD .Eq) (mVar 1) (mLit (.str "empty"))))
  (sRet (mMake "Empty" 2 f_Step___init__ (mCons (mVar 0) mNil)))
  sNext)
  (sSeq (sIf (mTru (mBin (cmpD .Eq) (mVar 1) (mLit (.str "join"))))
  (sRet (mMake "Join" 2 f_Step___init__ (mCons (mVar 0) mNil)))
  sNext)
  (sSeq (sIf (mTru (mBin (cmpD .Eq) (mVar 1) (mLit (.str "out"))))
  (sRet (mMake "Out" 2 f_Step___init__ (mCons (mVar 0) mNil)))
  sNext)
  (sSeq (sIf (mTru (mBin (cmpD .Eq) (mVar 1) (mLit (.str "many"))))
  (sRet (mMake "Many" 2 f_Step___init__ (mCons (mVar 0) mNil)))
  sNext)
  (sRet (mLit .non))))))))))))
noncomputable def f_name_step : Fn := runBody m_name_step 2
noncomputable def m_letter_step : MS :=
  (sSeq (sIf (mTru (mBin (cmpD .Eq) (mBin idxD (mVar 0) (mLit (.int 0))) (mLit (.str "send"))))
  (sRet (mMake "Send" 2 f_Step___init__ (mCons (mVar 0) mNil)))
  sNext)
  (sSeq (sIf (mTru (mBin (cmpD .Eq) (mBin idxD (mVar 0) (mLit (.int 0))) (mLit (.str "take"))))
  (sRet (mMake "Take" 2 f_Step___init__ (mCons (mVar 0) mNil)))
  sNext)
  (sRet (mMake "Bell" 2 f_Step___init__ (mCons (mVar 0) mNil)))))
noncomputable def f_letter_step : Fn := runBody m_letter_step 1
noncomputable def m_step_of : MS :=
  (sSeq (sExpr (mCall 3 f_sure (mCons (mVar 0) (mCons (mVar 1) (mCons (mVar 2) mNil)))))
  (sSeq (sAsg (bName 3) (mCall 1 f_number_step (mCons (mVar 0) mNil)))
  (sSeq (sIf (mTru (mBin (cmpD .Is) (mVar 3) (mLit .non)))
  (sAsg (bName 3) (mCall 1 f_name_step (mCons (mVar 0) mNil)))
  sNext)
  (sSeq (sIf (mTru (mBin (cmpD .Is) (mVar 3) (mLit .non)))
  (sAsg (bName 3) (mCall 1 f_letter_step (mCons (mVar 0) mNil)))
  sNext)
  (sRet (mVar 3))))))
noncomputable def f_step_of : Fn := runBody m_step_of 4
noncomputable def b_look_over_2 : MS :=
  (sTry (isxOf x_NoStep) (sExpr (mCall 3 f_step_of (mCons (mVar 5) (mCons (mBlt (bltD .len) (mCons (mVar 3) mNil)) (mCons (mVar 1) mNil)))))
  (sRaise2 "NoProgram" "role" "place" (mVar 2) (mVar 4)))
noncomputable def l_look_over_2 : MS := sFor (bTup (bCons (bName 4) (bCons (bName 5) bNil)) 2) (mEnum (mVar 3)) b_look_over_2
noncomputable def b_look_over_1 : MS :=
  l_look_over_2
noncomputable def l_look_over_1 : MS := sFor (bTup (bCons (bName 2) (bCons (bName 3) bNil)) 2) (mEnum (mBin idxD (mVar 0) (mLit (.int 2)))) b_look_over_1
noncomputable def m_look_over : MS :=
  (sSeq (sIf (mNotT (mTru (mCall 1 f_is_whole_program (mCons (mVar 0) mNil))))
  (sRaise2 "NoProgram" "role" "place" (mNeg (mLit (.int 1))) (mNeg (mLit (.int 1))))
  sNext)
  (sSeq (sAsg (bName 1) (mCall 1 f_counts_of (mCons (mVar 0) mNil)))
  l_look_over_1))
noncomputable def f_look_over : Fn := runBody m_look_over 6
noncomputable def b_law_1 : MS :=
  (sIf (mTru (mBin (cmpD .NotEq) (mVar 2) (mLst mNil)))
  (sSeq (sAsg (bName 6) (mBin idxD (mVar 2) (mCall 2 f__law_digit (mCons (mVar 3) (mCons (mBlt (bltD .len) (mCons (mVar 2) mNil)) mNil)))))
  (sSeq (sExpr (mApp (mVar 4) (mVar 6)))
  (sAsg (bName 1) (mCall 3 f__law_bad (mCons (mVar 1) (mCons (mVar 6) (mCons (mCall 2 f__law_digit (mCons (mVar 3) (mCons (mLit (.int 8)) mNil))) mNil)))))))
  sNext)
noncomputable def l_law_1 : MS := sFor (bName 5) (mRange1 (mBin (binD .Mod) (mCall 2 f__law_cell_at (mCons (mVar 0) (mCons (mLit (.int 0)) mNil))) (mLit (.int 4)))) b_law_1
noncomputable def m_law : MS :=
  (sSeq (sAsg (bName 1) (mCall 1 f__law_program (mCons (mVar 0) mNil)))
  (sSeq (sAsg (bName 2) (mCall 1 f__law_spots (mCons (mVar 1) mNil)))
  (sSeq (sAsg (bName 3) (mLst (mCons (mBin (binD .FloorDiv) (mCall 2 f__law_cell_at (mCons (mVar 0) (mCons (mLit (.int 0)) mNil))) (mLit (.int 4))) mNil)))
  (sSeq (sAsg (bName 4) (mLst mNil))
  (sSeq l_law_1
  (sSeq (sAsg (bName 7) (mLit .non))
  (sSeq (sTryAs (isxOf x_NoProgram) 8 (sExpr (mCall 1 f_look_over (mCons (mVar 1) mNil)))
  (fun a_ d_ c_ => (sAsg (bName 7) (mTup (mCons (mXf 8 a_ d_ (inB xf_role c_) "role") (mCons (mXf 8 a_ d_ (inB xf_place c_) "place") mNil))))))
  (sSeq (sIf (mTru (mBin (cmpD .Eq) (mVar 4) (mLst mNil)))
  (sRet (mBin (cmpD .Is) (mVar 7) (mLit .non)))
  sNext)
  (sRet (mBin (cmpD .Eq) (mVar 7) (mBlt minN (mCons (mVar 4) mNil))))))))))))
noncomputable def f_law : Fn := runBody m_law 9
end Ev.K17
section
open PySem PySem.Spec PyProof.Rows L2 Ev
local macro_rules
  | `(tactic| walk_at "ev") => `(tactic| simp only [x_seqM, x_var, x_lit, x_bin, x_neg, x_tru, x_notT, x_notV, x_ite, x_endT, x_andT, x_orT, x_andV, x_orV, x_noPart, x_part, x_cut, x_rev, x_nil, x_cons, x_tup, x_lst, x_call, x_blt, x_isi, x_rgL, x_app, x_iter, x_range1, x_range2, x_bName, x_bNil, x_bCons, x_bTup, x_next, x_brk, x_cont, x_expr, x_ret, x_retN, x_if, x_asg, x_aug, x_sub, x_pop, x_popAt, x_enum, x_zip, x_chain, x_blO, x_range3, x_count,
      box_non, box_bl, box_int, box_str, box_tup, box_ref, box_fro, box_lst, boxL_nil, boxL_cons, getT, getT0, setT, setT0, getTs, getTs0, setTs, setTs0, isLst, seqL_lst, seqL_fro, seqL_ref, seqL_tup, seqL_int, seqL_non, seqL_bl, seqL_str, seqW_lst, seqW_ref, seqT_tup, seqT_ref, seqT_lst, seqT_fro, seqA_tup, seqA_lst, seqA_fro, seqA_ref,
      eqD_int, eqD_bl, isD_bb, isD_nn, isD_in, isD_tn, isD_sn, isD_rn, isi_non, isi_bl, isi_int, isi_str, isi_tup, isi_ref, items_tup, items_lst, items_fro, items_ref, cmp_eq, cmp_ne, cmp_lt, cmp_le, cmp_gt, cmp_ge, cmp_is, cmp_isnot, cmp_in, cmp_notin, bin_add, bin_sub, bin_mod, bin_div, bin_pow, bin_shl, bin_shr, bin_and, bin_or, tru_bl, tru_int, tru_non, intC_int, intB_int, bind_ok, bind_exc, bind_fail, of_some, of_none, s_ok, s_exc, s_fail, noX_ok,
      List.getElem?_cons_zero, List.getElem?_cons_succ, List.getElem?_nil, List.set_cons_zero, List.set_cons_succ, List.length_cons, List.length_nil, List.length_set, List.length_append, List.map_cons, List.map_nil, List.cons_append, List.nil_append, if_true, if_false, ite_true, ite_false, decide_true, decide_false, Bool.not_true, Bool.not_false, beq_self_eq_true, beq_tt, beq_ff, beq_tf, beq_ft, Bool.not_not, reduceCtorEq, or_false, false_or, or_true, true_or, or_self, and_self, and_true, true_and, Bool.false_eq_true, Nat.add_zero, Nat.zero_add])
  | `(tactic| walk_at "ev*") => `(tactic| simp only [x_seqM, x_var, x_lit, x_bin, x_neg, x_tru, x_notT, x_notV, x_ite, x_endT, x_andT, x_orT, x_andV, x_orV, x_noPart, x_part, x_cut, x_rev, x_nil, x_cons, x_tup, x_lst, x_call, x_blt, x_isi, x_rgL, x_app, x_iter, x_range1, x_range2, x_bName, x_bNil, x_bCons, x_bTup, x_next, x_brk, x_cont, x_expr, x_ret, x_retN, x_if, x_asg, x_aug, x_sub, x_pop, x_popAt, x_enum, x_zip, x_chain, x_blO, x_range3, x_count,
      box_non, box_bl, box_int, box_str, box_tup, box_ref, box_fro, box_lst, boxL_nil, boxL_cons, getT, getT0, setT, setT0, getTs, getTs0, setTs, setTs0, isLst, seqL_lst, seqL_fro, seqL_ref, seqL_tup, seqL_int, seqL_non, seqL_bl, seqL_str, seqW_lst, seqW_ref, seqT_tup, seqT_ref, seqT_lst, seqT_fro, seqA_tup, seqA_lst, seqA_fro, seqA_ref,
      eqD_int, eqD_bl, isD_bb, isD_nn, isD_in, isD_tn, isD_sn, isD_rn, isi_non, isi_bl, isi_int, isi_str, isi_tup, isi_ref, items_tup, items_lst, items_fro, items_ref, cmp_eq, cmp_ne, cmp_lt, cmp_le, cmp_gt, cmp_ge, cmp_is, cmp_isnot, cmp_in, cmp_notin, bin_add, bin_sub, bin_mod, bin_div, bin_pow, bin_shl, bin_shr, bin_and, bin_or, tru_bl, tru_int, tru_non, intC_int, intB_int, bind_ok, bind_exc, bind_fail, of_some, of_none, s_ok, s_exc, s_fail, noX_ok,
      List.getElem?_cons_zero, List.getElem?_cons_succ, List.getElem?_nil, List.set_cons_zero, List.set_cons_succ, List.length_cons, List.length_nil, List.length_set, List.length_append, List.map_cons, List.map_nil, List.cons_append, List.nil_append, if_true, if_false, ite_true, ite_false, decide_true, decide_false, Bool.not_true, Bool.not_false, beq_self_eq_true, beq_tt, beq_ff, beq_tf, beq_ft, Bool.not_not, reduceCtorEq, or_false, false_or, or_true, true_or, or_self, and_self, and_true, true_and, Bool.false_eq_true, Nat.add_zero, Nat.zero_add, *])
local macro_rules
  | `(tactic| walk_at "vc") => `(tactic| try simp only [x_var, x_lit, x_bin, x_neg, x_tru, x_notT, x_notV, x_ite, x_endT, x_andT, x_orT, x_andV, x_orV, x_noPart, x_part, x_cut, x_rev, x_nil, x_cons, x_tup, x_lst, x_call, x_blt, x_isi, x_rgL, x_app, x_iter, x_range1, x_range2, x_bName, x_bNil, x_bCons, x_bTup, x_next, x_brk, x_cont, x_expr, x_ret, x_retN, x_if, x_asg, x_aug, x_sub, x_pop, x_popAt, x_enum, x_zip, x_chain, x_blO, x_range3, x_count,
      box_non, box_bl, box_int, box_str, box_tup, box_ref, box_fro, box_lst, boxL_nil, boxL_cons, getT, getT0, setT, setT0, getTs, getTs0, setTs, setTs0, isLst, seqL_lst, seqL_fro, seqL_ref, seqL_tup, seqL_int, seqL_non, seqL_bl, seqL_str, seqW_lst, seqW_ref, seqT_tup, seqT_ref, seqT_lst, seqT_fro, seqA_tup, seqA_lst, seqA_fro, seqA_ref,
      eqD_int, eqD_bl, isD_bb, isD_nn, isD_in, isD_tn, isD_sn, isD_rn, isi_non, isi_bl, isi_int, isi_str, isi_tup, isi_ref, items_tup, items_lst, items_fro, items_ref, cmp_eq, cmp_ne, cmp_lt, cmp_le, cmp_gt, cmp_ge, cmp_is, cmp_isnot, cmp_in, cmp_notin, bin_add, bin_sub, bin_mod, bin_div, bin_pow, bin_shl, bin_shr, bin_and, bin_or, tru_bl, tru_int, tru_non, intC_int, intB_int, bind_ok, bind_exc, bind_fail, of_some, of_none, s_ok, s_exc, s_fail, noX_ok,
       szle_0, szlt_0, szle_1, szlt_1, szle_2, szlt_2, szle_3, szlt_3, szle_4, szlt_4, szle_5, szlt_5, szle_6, szlt_6, szle_7, szlt_7, szle_8, szlt_8, szle_9, szlt_9, szle_10, szlt_10, szle_11, szlt_11, szle_12, szlt_12, szle_13, szlt_13, szle_14, szlt_14, szle_15, szlt_15, szle_16, szlt_16, szle_17, szlt_17, szle_18, szlt_18, szle_19, szlt_19, szle_20, szlt_20, szle_21, szlt_21, szle_22, szlt_22, szle_23, szlt_23, szle_24, szlt_24, szle_25, szlt_25, szle_26, szlt_26, szle_27, szlt_27, szle_28, szlt_28, szle_29, szlt_29, szle_30, szlt_30, idxT_0, idxT_1, idxT_2, idxT_3, idxT_4, cutT_1, List.append_assoc, x_un, x_dict, x_dnil, x_dcons, x_ext, x_lenSet, x_upd, x_make, x_meth, x_fld, x_sfld, x_par, x_raise, box_dk, box_obj, x_deep, x_tcnt, deep_tup, deep_ptup, deep_int, deepL_nil, deepL_cons, deep_ints, dget_str, dictK_ref, dictK_dk, objOf_ref, objOf_obj, Option.isSome_some, Option.isSome_none, box_ptup, dv2, md2, wp_ok, wp_exc, wp_fail, wp_bind, wp_some, wp_noX, sw_next, sw_ret, sw_brk, sw_cont, sw_exc, sw_fail, sw_s, x_for, x_comp, x_weak, x_tidx, weakD, wipeE, List.map_append, List.map_cons, List.replicate_succ, List.replicate_zero, Nat.sub_zero, Nat.reduceSub, Nat.reduceAdd, List.set_cons_zero, List.set_cons_succ, List.foldl_cons, List.foldl_nil, List.getElem?_cons_zero, List.getElem?_cons_succ, List.getElem?_nil, List.set_cons_zero, List.set_cons_succ, List.length_cons, List.length_nil, List.length_set, List.length_append, List.map_cons, List.map_nil, List.cons_append, List.nil_append, if_true, if_false, ite_true, ite_false, decide_true, decide_false, Bool.not_true, Bool.not_false, beq_self_eq_true, beq_tt, beq_ff, beq_tf, beq_ft, Bool.not_not, reduceCtorEq, or_false, false_or, or_true, true_or, or_self, and_self, and_true, true_and, Bool.false_eq_true, Nat.add_zero, Nat.zero_add])
  | `(tactic| walk_at "vc*") => `(tactic| try simp only [x_var, x_lit, x_bin, x_neg, x_tru, x_notT, x_notV, x_ite, x_endT, x_andT, x_orT, x_andV, x_orV, x_noPart, x_part, x_cut, x_rev, x_nil, x_cons, x_tup, x_lst, x_call, x_blt, x_isi, x_rgL, x_app, x_iter, x_range1, x_range2, x_bName, x_bNil, x_bCons, x_bTup, x_next, x_brk, x_cont, x_expr, x_ret, x_retN, x_if, x_asg, x_aug, x_sub, x_pop, x_popAt, x_enum, x_zip, x_chain, x_blO, x_range3, x_count,
      box_non, box_bl, box_int, box_str, box_tup, box_ref, box_fro, box_lst, boxL_nil, boxL_cons, getT, getT0, setT, setT0, getTs, getTs0, setTs, setTs0, isLst, seqL_lst, seqL_fro, seqL_ref, seqL_tup, seqL_int, seqL_non, seqL_bl, seqL_str, seqW_lst, seqW_ref, seqT_tup, seqT_ref, seqT_lst, seqT_fro, seqA_tup, seqA_lst, seqA_fro, seqA_ref,
      eqD_int, eqD_bl, isD_bb, isD_nn, isD_in, isD_tn, isD_sn, isD_rn, isi_non, isi_bl, isi_int, isi_str, isi_tup, isi_ref, items_tup, items_lst, items_fro, items_ref, cmp_eq, cmp_ne, cmp_lt, cmp_le, cmp_gt, cmp_ge, cmp_is, cmp_isnot, cmp_in, cmp_notin, bin_add, bin_sub, bin_mod, bin_div, bin_pow, bin_shl, bin_shr, bin_and, bin_or, tru_bl, tru_int, tru_non, intC_int, intB_int, bind_ok, bind_exc, bind_fail, of_some, of_none, s_ok, s_exc, s_fail, noX_ok,
       szle_0, szlt_0, szle_1, szlt_1, szle_2, szlt_2, szle_3, szlt_3, szle_4, szlt_4, szle_5, szlt_5, szle_6, szlt_6, szle_7, szlt_7, szle_8, szlt_8, szle_9, szlt_9, szle_10, szlt_10, szle_11, szlt_11, szle_12, szlt_12, szle_13, szlt_13, szle_14, szlt_14, szle_15, szlt_15, szle_16, szlt_16, szle_17, szlt_17, szle_18, szlt_18, szle_19, szlt_19, szle_20, szlt_20, szle_21, szlt_21, szle_22, szlt_22, szle_23, szlt_23, szle_24, szlt_24, szle_25, szlt_25, szle_26, szlt_26, szle_27, szlt_27, szle_28, szlt_28, szle_29, szlt_29, szle_30, szlt_30, idxT_0, idxT_1, idxT_2, idxT_3, idxT_4, cutT_1, List.append_assoc, x_un, x_dict, x_dnil, x_dcons, x_ext, x_lenSet, x_upd, x_make, x_meth, x_fld, x_sfld, x_par, x_raise, box_dk, box_obj, x_deep, x_tcnt, deep_tup, deep_ptup, deep_int, deepL_nil, deepL_cons, deep_ints, dget_str, dictK_ref, dictK_dk, objOf_ref, objOf_obj, Option.isSome_some, Option.isSome_none, box_ptup, dv2, md2, wp_ok, wp_exc, wp_fail, wp_bind, wp_some, wp_noX, sw_next, sw_ret, sw_brk, sw_cont, sw_exc, sw_fail, sw_s, x_for, x_comp, x_weak, x_tidx, weakD, wipeE, List.map_append, List.map_cons, List.replicate_succ, List.replicate_zero, Nat.sub_zero, Nat.reduceSub, Nat.reduceAdd, List.set_cons_zero, List.set_cons_succ, List.foldl_cons, List.foldl_nil, List.getElem?_cons_zero, List.getElem?_cons_succ, List.getElem?_nil, List.set_cons_zero, List.set_cons_succ, List.length_cons, List.length_nil, List.length_set, List.length_append, List.map_cons, List.map_nil, List.cons_append, List.nil_append, if_true, if_false, ite_true, ite_false, decide_true, decide_false, Bool.not_true, Bool.not_false, beq_self_eq_true, beq_tt, beq_ff, beq_tf, beq_ft, Bool.not_not, reduceCtorEq, or_false, false_or, or_true, true_or, or_self, and_self, and_true, true_and, Bool.false_eq_true, Nat.add_zero, Nat.zero_add, *])
set_option hygiene false
local macro_rules
  | `(tactic| walk_at "nx") => `(tactic| (refine sw_seq fun N hN => ?_; walk_at "vc"))
  | `(tactic| walk_at "go") => `(tactic| (refine hN _ _ ?_; clear hN; clear N))
  | `(tactic| walk_at "nx*") => `(tactic| (refine sw_seq fun N hN => ?_; walk_at "vc*"))
  | `(tactic| walk_at "st") => `(tactic| (refine sw_seq fun N hN => ?_; walk_at "vc"; refine hN _ _ ?_; clear hN; clear N))
  | `(tactic| walk_at "st*") => `(tactic| (refine sw_seq fun N hN => ?_; walk_at "vc*"; refine hN _ _ ?_; clear hN; clear N))
local macro_rules
  | `(tactic| walk_at "sq") => `(tactic| first | (rw [eqS_ne ?hsq]; (case hsq => decide +kernel)) | (rw [eqS_eq ?hsq]; (case hsq => decide +kernel)))
  | `(tactic| walk_at "lk") => `(tactic| repeat (first | rw [lookK_hit] | (rw [lookK_miss ?hlk]; (case hlk => decide +kernel))))
  | `(tactic| walk_at "ls") => `(tactic| repeat (first | rw [lookS_hit] | (rw [lookS_miss ?hls]; (case hls => decide +kernel))))
  | `(tactic| walk_at "if0") => `(tactic| (refine sw_seq fun N hN => ?_; walk_at "vc"; walk_at "sq"; walk_at "vc"; refine hN _ _ ?_; clear hN; clear N))
set_option hygiene true
local macro_rules
  | `(tactic| walk_at "nm") => `(tactic| repeat (simp only [md_3, md_4, md_5, md_6, md_7, md_9, md_10, md_11, md_16, md_18, md_19, md_22, md_23, md_30, md_36, md_60, md_64, md_66, md_90, md_100, md_198, md_396, md_594, md_613, md_1009, md_1782, md_4096, md_12078, md_24156, md_256, dv_3, dv_4, dv_5, dv_6, dv_7, dv_9, dv_10, dv_16, dv_18, dv_22, dv_30, dv_36, dv_60, dv_64, dv_66, dv_90, dv_198, dv_396, dv_594, dv_613, dv_1009, dv_1782, dv_4096, dv_12078, dv_24156, dv_256, lg_2, lg_3, lg_4, lg_5, lg_6, lg_7, lg_9, lg_10, lg_16, lg_18, lg_22, lg_30, lg_36, lg_60, lg_64, lg_66, lg_90, lg_198, lg_396, lg_594, lg_613, lg_1009, lg_1782, lg_4096, lg_12078, lg_24156, lg_256]; walk_at "vc"))
namespace Ev.K17
open PySem PySem.Spec PyProof.Rows L2 Ev
theorem cell_at_eq {ns : List Int} {k : Nat} {S : Store} : f__law_cell_at [.fro (ns.map .int), .int k] S = .ok (.int (ns[k]?.getD 0)) S := by
  have hx : (bltD .len [.fro (ns.map D.int)] S) = some (.int ns.length) := by
    show some (D.int ((ns.map D.int).length : Nat)) = _
    simp
  refine run_ret (d := .int (ns[k]?.getD 0)) (S2 := S) ?_ closeD_same
  show m__law_cell_at [some (.fro (ns.map .int)), some (.int k)] S = _
  unfold m__law_cell_at
  walk_at "ev"
  rw [hx]
  by_cases h : k < ns.length
  · have h1 : ((k : Nat) : Int) < ns.length := by omega
    have hi : idxD (.fro (ns.map D.int)) (.int k) S = some (.int (ns[k]?.getD 0)) := by
      show atI (ns.map D.int) (k : Int) = _
      unfold atI ixN
      simp [h]
    walk_at "ev"
    rw [decide_eq_true h1, if_pos rfl, hi]
    rfl
  · have h1 : ¬ ((k : Nat) : Int) < ns.length := by omega
    walk_at "ev"
    have : ns[k]? = none := by simp; omega
    rw [decide_eq_false h1, if_neg (by simp), this]
    rfl
/-- a state of digits: one int, or three -/
def Stt (k n : Nat) (S : Store) : Prop := ∃ ns : List Int, S[k]? = some (.lst (ns.map .int)) ∧ ((∃ a, ns = [a]) ∨ ∃ a b c : Int, ns = [a, b, c] ∧ 0 ≤ b ∧ b < 2147483647 ∧ 0 ≤ c ∧ c ≤ n)
theorem Stt.lt {k n : Nat} {S : Store} (h : Stt k n S) : k < S.length := by
  obtain ⟨ns, e, _⟩ := h
  exact (List.getElem?_eq_some_iff.mp e).1
theorem Stt.mono {k n m : Nat} {S : Store} (h : Stt k n S) (hm : n ≤ m) : Stt k m S := by
  obtain ⟨ns, e, h | ⟨a, b, c, h1, h2, h3, h4, h5⟩⟩ := h
  · exact ⟨ns, e, .inl h⟩
  · exact ⟨ns, e, .inr ⟨a, b, c, h1, h2, h3, h4, by omega⟩⟩
theorem Stt.app {k n : Nat} {S T : Store} (h : Stt k n S) : Stt k n (S ++ T) := by
  obtain ⟨ns, e, h⟩ := h
  exact ⟨ns, by rw [List.getElem?_append_left (List.getElem?_eq_some_iff.mp e).1]; exact e, h⟩
theorem digit_wp {S : Store} {k n : Nat} {base : Int} {Q : D → Store → Prop} {E : XP} (h : Stt k n S) (hn : n < 2 ^ 60) (h0 : 0 < base) (h1 : base < 2 ^ 100)
    (q : ∀ (d : Int) (S' : Store), Di k S S' → Stt k (n + 1) S' → 0 ≤ d → d < base → Q (.int d) S') : (f__law_digit [.ref k, .int base] S).wp Q E := by
  have hkl := h.lt
  obtain ⟨ns, hk, hs⟩ := h
  have pb := fdiv_ok h0 h1
  have pm : (0 : Int) < 2147483647 := by decide
  have pm2 : (0 : Int) < 2147483399 := by decide
  have p1 : (0 : Int) < 1009 ∧ (1009 : Int).natAbs.log2 < 9000 := by decide
  have p2 : (0 : Int) < 2003 ∧ (2003 : Int).natAbs.log2 < 9000 := by decide
  refine run_wp ?_
  walk_at "vc"
  unfold m__law_digit
  refine sw_seq fun N hN => ?_
  have go : ∀ (S1 : Store) (a b c : Int), Di k S S1 → S1[k]? = some (.lst [.int a, .int b, .int c]) → 0 ≤ b → b < 2147483647 → 0 ≤ c → c ≤ n → N [some (.ref k), some (.int base), none, none] S1 := by
    intro S1 a b c hd hk1 b0 b1 c0 c1
    refine hN _ _ ?_
    clear hN N
    have hl1 : k < S1.length := by rw [hd.len]; exact hkl
    have i0 : ∀ S' x y z, S'[k]? = some (.lst [.int x, .int y, .int z]) → idxD (.ref k) (.int 0) S' = some (.int x) := fun S' x y z e => by rw [idx_ref e]; rfl
    have i1 : ∀ S' x y z, S'[k]? = some (.lst [.int x, .int y, .int z]) → idxD (.ref k) (.int 1) S' = some (.int y) := fun S' x y z e => by rw [idx_ref e]; rfl
    have i2 : ∀ S' x y z, S'[k]? = some (.lst [.int x, .int y, .int z]) → idxD (.ref k) (.int 2) S' = some (.int z) := fun S' x y z e => by rw [idx_ref e]; rfl
    have x0 : ixN 3 0 = some 0 := by decide
    have x2 : ixN 3 2 = some 2 := by decide
    walk_at "nx"
    rw [i0 _ _ _ _ hk1]
    walk_at "vc"
    by_cases ha : 0 < a
    · rw [decide_eq_true ha, if_pos rfl]
      walk_at "nx"
      rw [i0 _ _ _ _ hk1]
      walk_at "vc"
      rw [if_pos h0]
      walk_at "vc"
      walk_at "go"
      walk_at "nx"
      rw [i0 _ _ _ _ hk1]
      walk_at "vc"
      rw [if_pos pb]
      walk_at "vc"
      rw [hk1]
      walk_at "vc"
      rw [x0]
      walk_at "vc"
      walk_at "go"
      walk_at "vc"
      refine closeR_di0 (k := k) (hd.trans (.set (ns := [a / base, b, c]))) lo_int (q _ _ (hd.trans (.set (ns := [a / base, b, c]))) ⟨[a / base, b, c], List.getElem?_set_self hl1, .inr ⟨_, _, _, rfl, b0, b1, c0, by omega⟩⟩ (Int.emod_nonneg _ (by omega)) (Int.emod_lt_of_pos _ h0))
    · rw [decide_eq_false ha, if_neg (by simp)]
      walk_at "vc"
      walk_at "go"
      walk_at "nx"
      rw [i2 _ _ _ _ hk1]
      walk_at "vc"
      rw [hk1]
      walk_at "vc"
      rw [x2]
      walk_at "vc"
      walk_at "go"
      have hk2 : (S1.set k (.lst [.int a, .int b, .int (c + 1)]))[k]? = some (.lst [.int a, .int b, .int (c + 1)]) := List.getElem?_set_self hl1
      show (sSeq _ _ [some (.ref k), some (.int base), none, none] (S1.set k (.lst [.int a, .int b, .int (c + 1)]))).wp _ _ _ _ _
      walk_at "nx"
      rw [i1 _ _ _ _ hk2]
      walk_at "vc"
      rw [i2 _ _ _ _ hk2]
      walk_at "vc"
      rw [mul_small (by decide) (by decide) (by omega) (by omega)]
      walk_at "vc"
      rw [mul_small (by omega) (by omega) (by decide) (by decide)]
      walk_at "vc"
      rw [if_pos pm]
      walk_at "vc"
      walk_at "go"
      have y0 := Int.emod_nonneg ((b + 7919 * (c + 1) + 1) * 48271) (b := 2147483647) (by decide)
      have y1 := Int.emod_lt_of_pos ((b + 7919 * (c + 1) + 1) * 48271) (b := 2147483647) (by decide)
      generalize (b + 7919 * (c + 1) + 1) * 48271 % 2147483647 = y at y0 y1
      walk_at "nx"
      rw [if_pos p1]
      walk_at "vc"
      rw [mul_small y0 (by omega) (by omega) (by omega)]
      walk_at "vc"
      rw [if_pos pm]
      walk_at "vc"
      walk_at "go"
      have z0 := Int.emod_nonneg (y * (y / 1009 + 69621)) (b := 2147483647) (by decide)
      have z1 := Int.emod_lt_of_pos (y * (y / 1009 + 69621)) (b := 2147483647) (by decide)
      generalize y * (y / 1009 + 69621) % 2147483647 = z at z0 z1
      walk_at "vc"
      rw [if_pos p2]
      walk_at "vc"
      rw [mul_small z0 (by omega) (by omega) (by omega)]
      walk_at "vc"
      rw [if_pos pm2]
      walk_at "vc"
      rw [if_pos h0]
      walk_at "vc"
      refine closeR_di0 (k := k) (hd.trans (.set (ns := [a, b, c + 1]))) lo_int (q _ _ (hd.trans (.set (ns := [a, b, c + 1]))) ⟨[a, b, c + 1], hk2, .inr ⟨_, _, _, rfl, b0, b1, by omega, by omega⟩⟩ (Int.emod_nonneg _ (by omega)) (Int.emod_lt_of_pos _ h0))
  clear hN
  rcases hs with ⟨a, rfl⟩ | ⟨a, b, c, rfl, b0, b1, c0, c1⟩
  · have hk : S[k]? = some (.lst [.int a]) := hk
    have hlen : bltD .len [.ref k] S = some (.int 1) := blt_lenA (ds := [.int a]) (by rw [seqA_ref, hk]) (fun x h => nomatch h)
    have hi : idxD (.ref k) (.int 0) S = some (.int a) := by rw [idx_ref hk]; rfl
    walk_at "vc"
    rw [hlen]
    walk_at "vc"
    rw [hk]
    walk_at "vc"
    rw [hi]
    walk_at "vc"
    rw [if_pos pm]
    walk_at "vc"
    rw [hk]
    walk_at "vc"
    refine go _ a (a % 2147483647) 0 (.set (ns := [a, a % 2147483647, 0])) (List.getElem?_set_self hkl) (Int.emod_nonneg _ (by decide)) (Int.emod_lt_of_pos _ (by decide)) (by omega) (by omega)
  · have hk : S[k]? = some (.lst [.int a, .int b, .int c]) := hk
    have hlen : bltD .len [.ref k] S = some (.int 3) := blt_lenA (ds := [.int a, .int b, .int c]) (by rw [seqA_ref, hk]) (fun x h => nomatch h)
    have n31 : ¬ ((3 : Int) = 1) := by decide
    walk_at "vc"
    rw [hlen]
    walk_at "vc"
    rw [decide_eq_false n31]
    walk_at "vc"
    exact go _ a b c .refl hk b0 b1 c0 c1
theorem Di.app_inv {k : Nat} {S U T : Store} (hk : k < S.length) (h : Di k (S ++ T) U) : ∃ S', U = S' ++ T ∧ Di k S S' := by
  rcases h with rfl | ⟨ns, rfl⟩
  · exact ⟨S, rfl, .refl⟩
  · exact ⟨S.set k (.lst (ns.map .int)), by rw [List.set_append_left _ _ hk], .set⟩
theorem Stt.cut {k n : Nat} {S T : Store} (hk : k < S.length) (h : Stt k n (S ++ T)) : Stt k n S := by
  obtain ⟨ns, e, h⟩ := h
  exact ⟨ns, by rw [List.getElem?_append_left hk] at e; exact e, h⟩
theorem digitT_wp {S T : Store} {k n : Nat} {base : Int} {Q : D → Store → Prop} {E : XP} (h : Stt k n S) (hn : n < 2 ^ 60) (h0 : 0 < base) (h1 : base < 2 ^ 100)
    (q : ∀ (d : Int) (S' : Store), Di k S S' → S'.length = S.length → Stt k (n + 1) S' → 0 ≤ d → d < base → Q (.int d) (S' ++ T)) : (f__law_digit [.ref k, .int base] (S ++ T)).wp Q E := by
  refine digit_wp h.app hn h0 h1 fun d U g st d0 d1 => ?_
  obtain ⟨S', rfl, g'⟩ := Di.app_inv h.lt g
  exact q d S' g' g'.len (st.cut (by rw [g'.len]; exact h.lt)) d0 d1
end Ev.K17
namespace Ev.K17
open PySem PySem.Spec PyProof.Rows L2 Ev
/-! ### what fits -/
def wholeB : D → Bool
  | .int _ => true
  | _ => false
def fromB (lo hi : Int) : D → Bool
  | .int i => decide (lo ≤ i) && decide (i ≤ hi)
  | _ => false
theorem whole_wp {d : D} {n : Nat} {S : Store} {Q : D → Store → Prop} {E : XP} (hd : d.pl false n = true) (q : Q (.bl (wholeB d)) S) : (f_is_whole [d] S).wp Q E := by
  refine run_wp ?_
  cases d with
  | non => walk_at "vc"; unfold m_is_whole; walk_at "vc"; exact closeR_same q
  | bl b => walk_at "vc"; unfold m_is_whole; walk_at "vc"; exact closeR_same q
  | int b => walk_at "vc"; unfold m_is_whole; walk_at "vc"; exact closeR_same q
  | str b => walk_at "vc"; unfold m_is_whole; walk_at "vc"; exact closeR_same q
  | tup b => walk_at "vc"; unfold m_is_whole; walk_at "vc"; exact closeR_same q
  | _ => cases n <;> (unfold D.pl at hd; cases hd)
theorem box_pl {nb : Bool} {d : D} {n : Nat} {S : Store} (hd : d.pl nb n = true) : box d S = (d, S) := by
  cases d <;> first | rfl | (cases n <;> (unfold D.pl at hd; cases hd))
theorem from_wp {d : D} {n : Nat} {lo hi : Int} {S : Store} {Q : D → Store → Prop} {E : XP} (hd : d.pl false n = true) (q : Q (.bl (fromB lo hi d)) S) : (f_is_from [d, .int lo, .int hi] S).wp Q E := by
  refine run_wp ?_
  walk_at "vc"
  rw [box_pl hd]
  walk_at "vc"
  unfold m_is_from
  walk_at "vc"
  refine whole_wp hd ?_
  cases d with
  | int i =>
    simp only [wholeB]
    simp only [fromB] at q
    walk_at "vc"
    by_cases h : lo ≤ i
    · rw [decide_eq_true h] at q ⊢
      walk_at "vc"
      exact closeR_same q
    · rw [decide_eq_false h] at q ⊢
      walk_at "vc"
      exact closeR_same q
  | _ => simp only [wholeB]; walk_at "vc"; exact closeR_same q
/-! ### a line of take -/
def neI : D → D → Bool
  | .int i, .int j => decide (i ≠ j)
  | _, _ => false
def lineB (len : Int) : D → Bool
  | .tup [a, b, c, e, p] => fromB 0 12 a && fromB 0 len p && fromB 0 2 b && fromB 0 2 c && fromB 0 2 e && neI c e
  | _ => false
theorem from_int {lo hi : Int} {d : D} (h : fromB lo hi d = true) : ∃ i, d = .int i ∧ lo ≤ i ∧ i ≤ hi := by
  cases d with
  | int i => simp only [fromB, Bool.and_eq_true, decide_eq_true_eq] at h; exact ⟨i, rfl, h⟩
  | _ => cases h
theorem boolsD_map {α : Type} {f : α → Bool} : ∀ xs : List α, boolsD (xs.map fun x => .bl (f x)) = some (xs.map f)
  | [] => rfl
  | x :: xs => by rw [List.map_cons, List.map_cons]; unfold boolsD; rw [boolsD_map xs]
theorem all_lst {α : Type} {f : α → Bool} {xs : List α} {S : Store} : bltD .all [.lst (xs.map fun x => .bl (f x))] S = some (.bl ((xs.map f).all id)) := by
  show allD _ S = _
  unfold allD boolsL
  rw [seqL_lst]
  dsimp only
  rw [boolsD_map]
theorem cutT14 {a b c e p : D} {S : Store} : cutD (.tup [a, b, c, e, p]) (some 1) (some 4) S = some (.tup [b, c, e]) := rfl
theorem pl_cons {nb : Bool} {n : Nat} {d : D} {ds : List D} : plL nb n (d :: ds) = (d.pl nb n && plL nb n ds) := by conv => lhs; unfold plL
theorem pl_tup {nb : Bool} {n : Nat} {ds : List D} : (D.tup ds).pl nb (n + 1) = plL nb n ds := by conv => lhs; unfold D.pl
theorem five {α : Type} {ds : List α} (h : ds.length = 5) : ∃ a b c e p, ds = [a, b, c, e, p] := by
  match ds, h with
  | [a, b, c, e, p], _ => exact ⟨a, b, c, e, p, rfl⟩
theorem lineB_no {len : Int} {ds : List D} (h : ds.length ≠ 5) : lineB len (.tup ds) = false := by
  unfold lineB
  split
  · rename_i e; cases e; exact absurd rfl h
  · rfl
theorem line_wp {d : D} {n : Nat} {len : Int} {S : Store} {Q : D → Store → Prop} {E : XP} (hd : d.pl false (n + 1) = true) (q : Q (.bl (lineB len d)) S) : (f_fits_line [d, .int len] S).wp Q E := by
  refine run_wp ?_
  walk_at "vc"
  rw [box_pl hd]
  walk_at "vc"
  unfold m_fits_line
  cases d with
  | tup ds =>
    have hlen : ∀ S, bltD .len [.tup ds] S = some (.int (ds.length : Nat)) := fun S => blt_lenA rfl (fun x h => nomatch h)
    walk_at "nx"
    rw [hlen]
    walk_at "vc"
    by_cases h5 : ds.length = 5
    · obtain ⟨a, b, c, e, p, rfl⟩ := five h5
      rw [pl_tup, pl_cons, pl_cons, pl_cons, pl_cons, pl_cons] at hd
      simp only [Bool.and_eq_true] at hd
      obtain ⟨ha, hb, hc, he, hp, _⟩ := hd
      simp only [lineB] at q
      have e5 : ((([a, b, c, e, p] : List D).length : Nat) : Int) = 5 := rfl
      rw [e5]
      simp only [decide_true]
      walk_at "vc"
      walk_at "go"
      walk_at "nx"
      refine from_wp ha ?_
      cases h1 : fromB 0 12 a with
      | false =>
        rw [h1] at q
        walk_at "vc"
        exact closeR_same q
      | true =>
        walk_at "vc"
        refine from_wp hp ?_
        cases h2 : fromB 0 len p with
        | false =>
          rw [h1, h2] at q
          walk_at "vc"
          exact closeR_same q
        | true =>
          rw [h1, h2] at q
          walk_at "vc"
          walk_at "go"
          unfold q_fits_line_1
          walk_at "vc"
          rw [cutT14]
          walk_at "vc"
          have hall : ∀ z ∈ [b, c, e], z.pl false n = true := by
            intro z hz
            simp only [List.mem_cons, List.not_mem_nil, or_false] at hz
            rcases hz with rfl | rfl | rfl <;> assumption
          refine comp_wp (fun i es S' => S = S' ∧ es = ([b, c, e].take i).map fun x => .bl (fromB 0 2 x)) ⟨rfl, rfl⟩ (fun _ _ _ _ => trivial) ?_ ?_
          · rintro i d es S' hi ⟨rfl, rfl⟩
            refine ⟨_, rfl, ?_⟩
            walk_at "vc"
            refine from_wp (hall d (List.mem_of_getElem? hi)) ?_
            walk_at "vc"
            obtain ⟨hl, e1⟩ := List.getElem?_eq_some_iff.mp hi
            rw [← List.take_append_getElem hl, List.map_append, e1]
            rfl
          · rintro es S' ⟨rfl, rfl⟩
            rw [List.take_of_length_le (by simp)]
            walk_at "vc"
            rw [show ([D.bl (fromB 0 2 b), D.bl (fromB 0 2 c), D.bl (fromB 0 2 e)] : List D) = [b, c, e].map (fun x => .bl (fromB 0 2 x)) from rfl, all_lst]
            cases h3 : ([b, c, e].map (fromB 0 2)).all id with
            | false =>
              have : (fromB 0 2 b && fromB 0 2 c && fromB 0 2 e) = false := by
                simp only [List.map_cons, List.map_nil, List.all_cons, List.all_nil, id] at h3
                simpa [Bool.and_assoc] using h3
              have q' : Q (.bl false) S := by
                have e2 : (true && true && fromB 0 2 b && fromB 0 2 c && fromB 0 2 e && neI c e) = false := by
                  simp only [Bool.true_and, this, Bool.false_and]
                rw [e2] at q; exact q
              walk_at "vc"
              exact closeR_same q'
            | true =>
              simp only [List.map_cons, List.map_nil, List.all_cons, List.all_nil, id, Bool.and_true, Bool.and_eq_true] at h3
              obtain ⟨g1, g2, g3⟩ := h3
              obtain ⟨i, rfl, _⟩ := from_int g2
              obtain ⟨j, rfl, _⟩ := from_int g3
              rw [g1, g2, g3] at q
              walk_at "vc"
              have e2 : (true && true && true && true && true && decide (i ≠ j)) = !decide (i = j) := by by_cases h : i = j <;> simp [h]
              have q : Q (.bl (true && true && true && true && true && decide (i ≠ j))) S := q
              rw [e2] at q
              exact closeR_same q
    · have h5' : ¬ ((ds.length : Nat) : Int) = 5 := by omega
      rw [lineB_no h5] at q
      simp only [decide_eq_false h5']
      walk_at "vc"
      exact closeR_same q
  | _ => first
    | (unfold D.pl at hd; cases hd; done)
    | (walk_at "nx"; exact closeR_same q)
/-! ### the lines of take -/
def kindD : D → Int
  | .tup (.int k :: _) => k
  | _ => 0
def linesB (len : Int) : D → Bool
  | .tup [] => false
  | .tup (d :: ds) => (d :: ds).all (lineB len) && decide ((difI ((d :: ds).map kindD)).length = (d :: ds).length)
  | _ => false
theorem lineB_kind {len : Int} {d : D} (h : lineB len d = true) : ∃ k r, d = .tup (.int k :: r) ∧ 0 ≤ k ∧ k ≤ 12 := by
  unfold lineB at h
  split at h
  · rename_i a b c e p
    simp only [Bool.and_eq_true] at h
    obtain ⟨i, rfl, h1, h2⟩ := from_int h.1.1.1.1.1
    exact ⟨i, _, rfl, h1, h2⟩
  · cases h
theorem eq_nil {nb : Bool} {n : Nat} {d : D} {ds : List D} {S : Store} (hn : n ≤ 63) (h : plL nb n (d :: ds) = true) : eqD S (.tup (d :: ds)) (.tup []) = some false := by
  rw [eqD_pl (nb := nb) (nb' := true) (n := n + 1) (by omega) (by rw [pl_tup]; exact h) (by rw [pl_tup]; unfold plL; rfl)]
  unfold toP
  rfl
theorem eq_nil0 {S : Store} : eqD S (.tup []) (.tup []) = some true := eqD_same (nb := true) (n := 1) (by decide) (by rw [pl_tup]; unfold plL; rfl)
theorem lines_wp {d : D} {n : Nat} {len : Int} {S : Store} {Q : D → Store → Prop} {E : XP} (hn : n ≤ 60) (hd : d.pl false (n + 2) = true) (hz : ∀ ds, d = .tup ds → ds.length ≤ 1000) (q : Q (.bl (linesB len d)) S) : (f_fits_lines [d, .int len] S).wp Q E := by
  refine run_wp ?_
  walk_at "vc"
  rw [box_pl hd]
  walk_at "vc"
  unfold m_fits_lines
  cases d with
  | tup ds =>
    have hz := hz ds rfl
    rw [pl_tup] at hd
    cases ds with
    | nil =>
      walk_at "nx"
      rw [eq_nil0]
      walk_at "vc"
      exact closeR_same q
    | cons d ds =>
      have hall : ∀ x ∈ d :: ds, x.pl false (n + 1) = true := plL_mem.mp hd
      have hlen : ∀ S, bltD .len [.tup (d :: ds)] S = some (.int ((d :: ds).length : Nat)) := fun S => blt_lenA rfl (fun x h => nomatch h)
      generalize hxs : d :: ds = xs at *
      have q : Q (.bl (xs.all (lineB len) && decide ((difI (xs.map kindD)).length = xs.length))) S := by rw [← hxs] at q ⊢; exact q
      walk_at "nx"
      rw [← hxs, eq_nil (n := n + 1) (by omega) (by rw [hxs]; exact hd), hxs]
      walk_at "vc"
      walk_at "go"
      walk_at "nx"
      unfold q_fits_lines_1
      walk_at "vc"
      rw [if_pos (show xs.length ≤ sizeLine from sz_le (by omega))]
      walk_at "vc"
      refine comp_wp (fun i es S' => S = S' ∧ es = (xs.take i).map fun x => .bl (lineB len x)) ⟨rfl, rfl⟩ (fun _ _ _ _ => trivial) ?_ ?_
      · rintro i d es S' hi ⟨rfl, rfl⟩
        refine ⟨_, rfl, ?_⟩
        walk_at "vc"
        refine line_wp (hall d (List.mem_of_getElem? hi)) ?_
        walk_at "vc"
        obtain ⟨hl, e1⟩ := List.getElem?_eq_some_iff.mp hi
        rw [← List.take_append_getElem hl, List.map_append, e1]
        rfl
      · rintro es S' ⟨rfl, rfl⟩
        rw [List.take_length]
        walk_at "vc"
        rw [all_lst]
        have ea : (xs.map (lineB len)).all id = xs.all (lineB len) := by rw [List.all_map]; rfl
        rw [ea]
        cases ha : xs.all (lineB len) with
        | false =>
          rw [ha] at q
          walk_at "vc"
          exact closeR_same q
        | true =>
          rw [ha] at q
          walk_at "vc"
          walk_at "go"
          walk_at "vc"
          have hk : ∀ x ∈ xs, ∃ k r, x = .tup (.int k :: r) ∧ 0 ≤ k ∧ k ≤ 12 := fun x hx => lineB_kind (List.all_eq_true.mp ha x hx)
          unfold q_fits_lines_2
          walk_at "vc"
          rw [if_pos (show xs.length ≤ sizeLine from sz_le (by omega))]
          walk_at "vc"
          refine comp_wp (fun i es S' => S = S' ∧ es = ((xs.take i).map kindD).map D.int) ⟨rfl, rfl⟩ (fun _ _ _ _ => trivial) ?_ ?_
          · rintro i d es S' hi ⟨rfl, rfl⟩
            refine ⟨_, rfl, ?_⟩
            obtain ⟨hl, e1⟩ := List.getElem?_eq_some_iff.mp hi
            obtain ⟨k, r, e2, _⟩ := hk d (List.mem_of_getElem? hi)
            rw [← List.take_append_getElem hl, List.map_append, List.map_append, e1, e2]
            walk_at "vc"
            simp [kindD]
          · rintro es S' ⟨rfl, rfl⟩
            rw [List.take_length]
            walk_at "vc"
            have ei : intsL S (.lst ((xs.map kindD).map D.int)) = some (xs.map kindD) := by
              unfold intsL
              rw [seqL_lst]
              exact intsD_map _
            rw [ei]
            dsimp only
            rw [if_pos (by rw [List.length_map]; omega)]
            walk_at "vc"
            rw [hlen]
            walk_at "vc"
            have e3 : decide (((difI (xs.map kindD)).length : Int) = (xs.length : Nat)) = decide ((difI (xs.map kindD)).length = xs.length) := by
              by_cases h : (difI (xs.map kindD)).length = xs.length
              · rw [decide_eq_true h, decide_eq_true (by omega)]
              · rw [decide_eq_false h, decide_eq_false (by omega)]
            rw [e3]
            exact closeR_same q
  | _ => first
    | (unfold D.pl at hd; cases hd; done)
    | (walk_at "nx"; exact closeR_same q)
end Ev.K17
namespace Ev.K17
open PySem PySem.Spec PyProof.Rows L2 Ev
def bndL (len m : Int) : List (Str × Int × Int) := [("box", 0, 2), ("set", 0, 1), ("place", 0, len), ("amount", 1, 20), ("crowd", 0, 6), ("kind", 1, 12), ("from", -1, 2), ("role", 0, m - 1)]
theorem bnd_wp {s : Str} {lo hi len : Int} {cs : List Int} {d : D} {n : Nat} {S : Store} {Q : D → Store → Prop} {E : XP} (hs : (s, lo, hi) ∈ bndL len cs.length) (hd : d.pl false n = true) (q : Q (.bl (fromB lo hi d)) S) : (f_fits [.str s, d, .int len, .tup (cs.map .int)] S).wp Q E := by
  have nd : (([.inr "box", .inr "set", .inr "place", .inr "amount", .inr "crowd", .inr "kind", .inr "from", .inr "role"] : List Key)).Nodup := by decide +kernel
  refine run_wp ?_
  walk_at "vc"
  rw [box_pl hd]
  walk_at "vc"
  unfold m_fits
  unfold bndL at hs
  simp only [List.mem_cons, List.not_mem_nil, or_false, Prod.mk.injEq] at hs
  rcases hs with ⟨rfl, rfl, rfl⟩ | ⟨rfl, rfl, rfl⟩ | ⟨rfl, rfl, rfl⟩ | ⟨rfl, rfl, rfl⟩ | ⟨rfl, rfl, rfl⟩ | ⟨rfl, rfl, rfl⟩ | ⟨rfl, rfl, rfl⟩ | ⟨rfl, rfl, rfl⟩
  all_goals
    walk_at "if0"
    walk_at "if0"
    walk_at "if0"
    walk_at "st"
    walk_at "nx"
    rw [len_tupI]
    walk_at "vc"
    rw [if_pos nd]
    walk_at "vc"
    walk_at "go"
    walk_at "vc"
    walk_at "lk"
    walk_at "vc"
    refine from_wp hd ?_
    exact closeR_app lo_bl q
theorem num_wp {len : Int} {cs : List Int} {d : D} {n : Nat} {S : Store} {Q : D → Store → Prop} {E : XP} (hd : d.pl false n = true) (q : Q (.bl (wholeB d)) S) : (f_fits [.str "number", d, .int len, .tup (cs.map .int)] S).wp Q E := by
  refine run_wp ?_
  walk_at "vc"
  rw [box_pl hd]
  walk_at "vc"
  unfold m_fits
  walk_at "nx"
  walk_at "sq"
  walk_at "vc"
  refine whole_wp hd ?_
  exact closeR_same q
theorem lns_wp {len : Int} {cs : List Int} {d : D} {n : Nat} {S : Store} {Q : D → Store → Prop} {E : XP} (hn : n ≤ 60) (hd : d.pl false (n + 2) = true) (hz : ∀ ds, d = .tup ds → ds.length ≤ 1000) (q : Q (.bl (linesB len d)) S) : (f_fits [.str "lines", d, .int len, .tup (cs.map .int)] S).wp Q E := by
  refine run_wp ?_
  walk_at "vc"
  rw [box_pl hd]
  walk_at "vc"
  unfold m_fits
  walk_at "if0"
  walk_at "nx"
  walk_at "sq"
  walk_at "vc"
  refine lines_wp hn hd hz ?_
  exact closeR_same q
def oneB (cs : List Int) : D → Bool
  | .int i => decide (0 ≤ i) && decide (i ≤ (cs.length : Int) - 1) && decide (ati cs i = 1)
  | _ => false
theorem one_wp {len : Int} {cs : List Int} {d : D} {n : Nat} {S : Store} {Q : D → Store → Prop} {E : XP} (hd : d.pl false n = true) (q : Q (.bl (oneB cs d)) S) : (f_fits [.str "single", d, .int len, .tup (cs.map .int)] S).wp Q E := by
  refine run_wp ?_
  walk_at "vc"
  rw [box_pl hd]
  walk_at "vc"
  unfold m_fits
  walk_at "if0"
  walk_at "if0"
  walk_at "nx"
  walk_at "sq"
  walk_at "vc"
  rw [len_tupI]
  walk_at "vc"
  refine from_wp hd ?_
  cases h : fromB 0 ((cs.length : Int) - 1) d with
  | false =>
    walk_at "vc"
    have : oneB cs d = false := by
      cases d with
      | int i => simp only [fromB, oneB] at h ⊢; rw [h]; rfl
      | _ => rfl
    rw [this] at q
    exact closeR_same q
  | true =>
    obtain ⟨i, rfl, h0, h1⟩ := from_int h
    walk_at "vc"
    rw [idxT_int h0 (by omega)]
    walk_at "vc"
    have : oneB cs (.int i) = decide (ati cs i = 1) := by simp only [oneB]; rw [decide_eq_true h0, decide_eq_true h1]; rfl
    rw [this] at q
    exact closeR_same q
end Ev.K17
namespace Ev.K17
open PySem PySem.Spec PyProof.Rows L2 Ev
def formL : List (Str × List Str) := [("put", ["box", "number"]), ("copy", ["box", "box"]), ("raise", ["box", "number"]), ("sum", ["box", "box"]), ("choose", ["box", "amount"]), ("less", ["box", "number", "place"]), ("before", ["box", "box", "place"]), ("go", ["place"]), ("me", ["box"]), ("only", ["box", "single"]), ("pick", ["box", "role"]), ("alike", ["box", "box", "place"]), ("all", ["set", "role"]), ("empty", ["set"]), ("join", ["set", "box"]), ("out", ["box", "set", "place"]), ("many", ["set", "crowd", "place"]), ("send", ["box", "kind", "box", "box"]), ("take", ["from", "lines"]), ("bell", [])]
def numL : List (Str × Str) := [("put", "Put"), ("copy", "Copy"), ("raise", "Raise"), ("sum", "Sum"), ("choose", "Choose"), ("less", "Less"), ("before", "Before"), ("go", "Go")]
def namL : List (Str × Str) := [("me", "Me"), ("only", "Only"), ("pick", "Pick"), ("alike", "Alike"), ("all", "All"), ("empty", "Empty"), ("join", "Join"), ("out", "Out"), ("many", "Many")]
def letL : List (Str × Str) := [("send", "Send"), ("take", "Take"), ("bell", "Bell")]
def clsL : List (Str × Str) := numL ++ (namL ++ letL)
/-- a word's sorts in the program's table -/
theorem form_tb {w : Str} {sorts : List Str} (h : (w, sorts) ∈ formL) : tb_FORMS.lookup w = some (some (.tup (sorts.map .str))) := by
  unfold formL at h
  simp only [List.mem_cons, List.not_mem_nil, or_false, Prod.mk.injEq] at h
  unfold tb_FORMS
  rcases h with ⟨rfl, rfl⟩ | ⟨rfl, rfl⟩ | ⟨rfl, rfl⟩ | ⟨rfl, rfl⟩ | ⟨rfl, rfl⟩ | ⟨rfl, rfl⟩ | ⟨rfl, rfl⟩ | ⟨rfl, rfl⟩ | ⟨rfl, rfl⟩ | ⟨rfl, rfl⟩ | ⟨rfl, rfl⟩ | ⟨rfl, rfl⟩ | ⟨rfl, rfl⟩ | ⟨rfl, rfl⟩ | ⟨rfl, rfl⟩ | ⟨rfl, rfl⟩ | ⟨rfl, rfl⟩ | ⟨rfl, rfl⟩ | ⟨rfl, rfl⟩ | ⟨rfl, rfl⟩ <;> (walk_at "ls")
theorem init_wp {c : Str} {told : D} {S : Store} {Q : D → Store → Prop} {E : XP} (hc : inB ["Send", "Take", "Bell", "Put", "Copy", "Raise", "Sum", "Choose", "Go", "Less", "Before", "Me", "Only", "Pick", "Alike", "All", "Empty", "Join", "Out", "Many"] c = true) (ht : told.cell? = none) (q : Q .non (S ++ [.obj c ["form"] [told]])) : (f_Step___init__ [.ref S.length, told] (S ++ [.obj c [] []])).wp Q E := by
  have bx : ∀ S, box told S = (told, S) := fun S => by unfold box; rw [ht]
  refine run_wp ?_
  walk_at "vc"
  rw [bx]
  walk_at "vc"
  unfold m_Step___init__
  walk_at "vc"
  rw [bx]
  walk_at "vc"
  rw [hc]
  have hz : (0 : Nat) < 1000 := by decide
  walk_at "vc*"
  rw [closeD_len (by simp) lo_non]
  exact q
theorem clsB : ∀ c ∈ clsL.map (·.2), inB ["Send", "Take", "Bell", "Put", "Copy", "Raise", "Sum", "Choose", "Go", "Less", "Before", "Me", "Only", "Pick", "Alike", "All", "Empty", "Join", "Out", "Many"] c = true := by decide +kernel
theorem made_wp {c : Str} {told : D} {S : Store} {Q : D → Store → Prop} {E : XP} (hc : c ∈ clsL.map (·.2)) (ht : told.cell? = none) (hl : told.lo S.length = true) (q : Q (.obj c ["form"] [told]) S) :
    (f_Step___init__ [.ref S.length, told] (S ++ [.obj c [] []])).wp (fun d S2 => (match d with
      | .non => Out.ok (closeD S (.ref S.length) S2).1 (closeD S (.ref S.length) S2).2
      | _ => .fail).wp Q E) E := by
  refine init_wp (clsB c hc) ht ?_
  rw [closeD_obj0 (by rw [loL_cons, hl]; rfl)]
  exact q
set_option maxHeartbeats 8000000 in
theorem num_step {w c : Str} {args : List D} {S : Store} {Q : D → Store → Prop} {E : XP} (h : (w, c) ∈ numL) (hl : loL S.length args = true) (q : Q (.obj c ["form"] [.tup (.str w :: args)]) S) : (f_number_step [.tup (.str w :: args)] S).wp Q E := by
  have hl' : (D.tup (.str w :: args)).lo S.length = true := by rw [lo_tup, loL_cons, hl, lo_str]; rfl
  refine run_wp ?_
  walk_at "vc"
  unfold m_number_step
  unfold numL at h
  simp only [List.mem_cons, List.not_mem_nil, or_false, Prod.mk.injEq] at h
  walk_at "st"
  rcases h with ⟨rfl, rfl⟩ | ⟨rfl, rfl⟩ | ⟨rfl, rfl⟩ | ⟨rfl, rfl⟩ | ⟨rfl, rfl⟩ | ⟨rfl, rfl⟩ | ⟨rfl, rfl⟩ | ⟨rfl, rfl⟩
  all_goals
    repeat (walk_at "if0")
    walk_at "nx"
    walk_at "sq"
    walk_at "vc"
    exact made_wp (by decide +kernel) rfl hl' (closeR_same q)
set_option maxHeartbeats 8000000 in
theorem num_none {w c : Str} {args : List D} {S : Store} {Q : D → Store → Prop} {E : XP} (h : (w, c) ∈ namL ++ letL) (q : Q .non S) : (f_number_step [.tup (.str w :: args)] S).wp Q E := by
  refine run_wp ?_
  walk_at "vc"
  unfold m_number_step
  unfold namL letL at h
  simp only [List.cons_append, List.nil_append, List.mem_cons, List.not_mem_nil, or_false, Prod.mk.injEq] at h
  walk_at "st"
  rcases h with ⟨rfl, rfl⟩ | ⟨rfl, rfl⟩ | ⟨rfl, rfl⟩ | ⟨rfl, rfl⟩ | ⟨rfl, rfl⟩ | ⟨rfl, rfl⟩ | ⟨rfl, rfl⟩ | ⟨rfl, rfl⟩ | ⟨rfl, rfl⟩ | ⟨rfl, rfl⟩ | ⟨rfl, rfl⟩ | ⟨rfl, rfl⟩
  all_goals
    repeat (walk_at "if0")
    walk_at "vc"
    exact closeR_same q
set_option maxHeartbeats 8000000 in
theorem nam_step {w c : Str} {args : List D} {S : Store} {Q : D → Store → Prop} {E : XP} (h : (w, c) ∈ namL) (hl : loL S.length args = true) (q : Q (.obj c ["form"] [.tup (.str w :: args)]) S) : (f_name_step [.tup (.str w :: args)] S).wp Q E := by
  have hl' : (D.tup (.str w :: args)).lo S.length = true := by rw [lo_tup, loL_cons, hl, lo_str]; rfl
  refine run_wp ?_
  walk_at "vc"
  unfold m_name_step
  unfold namL at h
  simp only [List.mem_cons, List.not_mem_nil, or_false, Prod.mk.injEq] at h
  walk_at "st"
  rcases h with ⟨rfl, rfl⟩ | ⟨rfl, rfl⟩ | ⟨rfl, rfl⟩ | ⟨rfl, rfl⟩ | ⟨rfl, rfl⟩ | ⟨rfl, rfl⟩ | ⟨rfl, rfl⟩ | ⟨rfl, rfl⟩ | ⟨rfl, rfl⟩
  all_goals
    repeat (walk_at "if0")
    walk_at "nx"
    walk_at "sq"
    walk_at "vc"
    exact made_wp (by decide +kernel) rfl hl' (closeR_same q)
set_option maxHeartbeats 8000000 in
theorem nam_none {w c : Str} {args : List D} {S : Store} {Q : D → Store → Prop} {E : XP} (h : (w, c) ∈ letL) (q : Q .non S) : (f_name_step [.tup (.str w :: args)] S).wp Q E := by
  refine run_wp ?_
  walk_at "vc"
  unfold m_name_step
  unfold letL at h
  simp only [List.mem_cons, List.not_mem_nil, or_false, Prod.mk.injEq] at h
  walk_at "st"
  rcases h with ⟨rfl, rfl⟩ | ⟨rfl, rfl⟩ | ⟨rfl, rfl⟩
  all_goals
    repeat (walk_at "if0")
    walk_at "vc"
    exact closeR_same q
set_option maxHeartbeats 8000000 in
theorem let_step {w c : Str} {args : List D} {S : Store} {Q : D → Store → Prop} {E : XP} (h : (w, c) ∈ letL) (hl : loL S.length args = true) (q : Q (.obj c ["form"] [.tup (.str w :: args)]) S) : (f_letter_step [.tup (.str w :: args)] S).wp Q E := by
  have hl' : (D.tup (.str w :: args)).lo S.length = true := by rw [lo_tup, loL_cons, hl, lo_str]; rfl
  refine run_wp ?_
  walk_at "vc"
  unfold m_letter_step
  unfold letL at h
  simp only [List.mem_cons, List.not_mem_nil, or_false, Prod.mk.injEq] at h
  rcases h with ⟨rfl, rfl⟩ | ⟨rfl, rfl⟩ | ⟨rfl, rfl⟩
  · walk_at "nx"
    walk_at "sq"
    walk_at "vc"
    exact made_wp (by decide +kernel) rfl hl' (closeR_same q)
  · walk_at "if0"
    walk_at "nx"
    walk_at "sq"
    walk_at "vc"
    exact made_wp (by decide +kernel) rfl hl' (closeR_same q)
  · walk_at "if0"
    walk_at "if0"
    walk_at "vc"
    exact made_wp (by decide +kernel) rfl hl' (closeR_same q)
end Ev.K17
namespace Ev.K17
open PySem PySem.Spec PyProof.Rows L2 Ev
def fitTb (len : Int) (cs : List Int) : List (Str × (D → Bool)) := [("number", wholeB), ("lines", linesB len), ("single", oneB cs), ("box", fromB 0 2), ("set", fromB 0 1), ("place", fromB 0 len), ("amount", fromB 1 20), ("crowd", fromB 0 6), ("kind", fromB 1 12), ("from", fromB (-1) 2), ("role", fromB 0 ((cs.length : Int) - 1))]
def fitB (len : Int) (cs : List Int) (s : Str) (d : D) : Bool := match (fitTb len cs).lookup s with
  | some f => f d
  | none => false
def sortsL : List Str := ["number", "lines", "single", "box", "set", "place", "amount", "crowd", "kind", "from", "role"]
theorem fitB_at {len : Int} {cs : List Int} {s : Str} {d : D} {f : D → Bool} (h : (fitTb len cs).lookup s = some f) : fitB len cs s d = f d := by unfold fitB; rw [h]
set_option maxHeartbeats 8000000 in
theorem fits_wp {s : Str} {len : Int} {cs : List Int} {d : D} {n : Nat} {S : Store} {Q : D → Store → Prop} {E : XP} (hs : s ∈ sortsL) (hn : n ≤ 60) (hd : d.pl false (n + 2) = true) (hz : ∀ ds, d = .tup ds → ds.length ≤ 1000) (q : Q (.bl (fitB len cs s d)) S) : (f_fits [.str s, d, .int len, .tup (cs.map .int)] S).wp Q E := by
  unfold sortsL at hs
  simp only [List.mem_cons, List.not_mem_nil, or_false] at hs
  rcases hs with rfl | rfl | rfl | rfl | rfl | rfl | rfl | rfl | rfl | rfl | rfl
  · rw [fitB_at (f := wholeB) (by unfold fitTb; walk_at "ls")] at q; exact num_wp hd q
  · rw [fitB_at (f := linesB len) (by unfold fitTb; walk_at "ls")] at q; exact lns_wp hn hd hz q
  · rw [fitB_at (f := oneB cs) (by unfold fitTb; walk_at "ls")] at q; exact one_wp hd q
  · rw [fitB_at (f := fromB 0 2) (by unfold fitTb; walk_at "ls")] at q; exact bnd_wp (n := n + 2) (lo := 0) (hi := 2) (.head _) hd q
  · rw [fitB_at (f := fromB 0 1) (by unfold fitTb; walk_at "ls")] at q; exact bnd_wp (n := n + 2) (lo := 0) (hi := 1) (.tail _ (.head _)) hd q
  · rw [fitB_at (f := fromB 0 len) (by unfold fitTb; walk_at "ls")] at q; exact bnd_wp (n := n + 2) (lo := 0) (hi := len) (.tail _ (.tail _ (.head _))) hd q
  · rw [fitB_at (f := fromB 1 20) (by unfold fitTb; walk_at "ls")] at q; exact bnd_wp (n := n + 2) (lo := 1) (hi := 20) (.tail _ (.tail _ (.tail _ (.head _)))) hd q
  · rw [fitB_at (f := fromB 0 6) (by unfold fitTb; walk_at "ls")] at q; exact bnd_wp (n := n + 2) (lo := 0) (hi := 6) (.tail _ (.tail _ (.tail _ (.tail _ (.head _))))) hd q
  · rw [fitB_at (f := fromB 1 12) (by unfold fitTb; walk_at "ls")] at q; exact bnd_wp (n := n + 2) (lo := 1) (hi := 12) (.tail _ (.tail _ (.tail _ (.tail _ (.tail _ (.head _)))))) hd q
  · rw [fitB_at (f := fromB (-1) 2) (by unfold fitTb; walk_at "ls")] at q; exact bnd_wp (n := n + 2) (lo := (-1)) (hi := 2) (.tail _ (.tail _ (.tail _ (.tail _ (.tail _ (.tail _ (.head _))))))) hd q
  · rw [fitB_at (f := fromB 0 ((cs.length : Int) - 1)) (by unfold fitTb; walk_at "ls")] at q; exact bnd_wp (n := n + 2) (lo := 0) (hi := ((cs.length : Int) - 1)) (.tail _ (.tail _ (.tail _ (.tail _ (.tail _ (.tail _ (.tail _ (.head _)))))))) hd q
def okA (len : Int) (cs : List Int) : List Str → List D → Bool
  | s :: ss, d :: ds => fitB len cs s d && okA len cs ss ds
  | _, _ => true
theorem okA_take {len : Int} {cs : List Int} : ∀ {ss : List Str} {ds : List D}, okA len cs ss ds = true ↔ ∀ (i : Nat) s d, ss[i]? = some s → ds[i]? = some d → fitB len cs s d = true
  | [], ds => by unfold okA; simp
  | s :: ss, [] => by unfold okA; simp
  | s :: ss, d :: ds => by
    unfold okA
    rw [Bool.and_eq_true, okA_take]
    constructor
    · rintro ⟨h1, h2⟩ i s' d' hs hd
      cases i with
      | zero => cases hs; cases hd; exact h1
      | succ i => exact h2 i s' d' hs hd
    · intro h
      exact ⟨h 0 s d rfl rfl, fun i s' d' hs hd => h (i + 1) s' d' hs hd⟩
theorem form_sorts : ∀ p ∈ formL, (∀ s ∈ p.2, s ∈ sortsL) ∧ p.2.length ≤ 4 := by decide +kernel
/-- what is refused, of one word of the table and as many things as it has -/
theorem sure_wp {w : Str} {sorts : List Str} {args : List D} {len : Int} {cs : List Int} {n : Nat} {S : Store} {Q : D → Store → Prop} {E : XP} (hw : (w, sorts) ∈ formL) (hl : args.length = sorts.length) (hn : n ≤ 59) (hs : PyData.strOk w = true) (hd : plL false (n + 2) args = true) (hz : ∀ d ∈ args, ∀ ds, d = .tup ds → ds.length ≤ 1000)
    (q : okA len cs sorts args = true → Q .non S) (e : okA len cs sorts args = false → E "NoStep" [] [] S) : (f_sure [.tup (.str w :: args), .int len, .tup (cs.map .int)] S).wp Q E := by
  obtain ⟨hso, hs4⟩ := form_sorts _ hw
  have htb := form_tb hw
  have hpl : plL false (n + 2) (.str w :: args) = true := by rw [pl_cons, hd]; unfold D.pl; rw [hs]; rfl
  refine run_wp ?_
  walk_at "vc"
  unfold m_sure
  walk_at "nx"
  rw [eq_nil (n := n + 2) (by omega) hpl]
  walk_at "vc"
  have hci : cinD true tb_FORMS (.str w) = some (.bl false) := by simp only [cinD, htb]; rfl
  rw [hci]
  walk_at "vc"
  walk_at "go"
  walk_at "nx"
  have hcg : cgetD tb_FORMS (.str w) = some (.tup (sorts.map .str)) := by simp only [cgetD, htb]
  rw [hcg]
  walk_at "vc"
  walk_at "go"
  walk_at "nx"
  rw [len_tup]
  walk_at "vc"
  rw [len_tup]
  walk_at "vc"
  have e1 : ((args.length + 1 : Nat) : Int) = ((sorts.map D.str).length : Nat) + 1 := by rw [List.length_map]; omega
  rw [e1]
  simp only [decide_true]
  walk_at "vc"
  walk_at "go"
  unfold l_sure_1
  walk_at "vc"
  have ez : zipD S (.tup (sorts.map .str)) (.tup args) = some (zipL (sorts.map .str) args, []) := rfl
  rw [ez]
  walk_at "vc"
  have hat : ∀ (i : Nat) d, (zipL (sorts.map D.str) args)[i]? = some d → ∃ s a, sorts[i]? = some s ∧ args[i]? = some a ∧ d = .tup [.str s, a] := by
    intro i d hi
    unfold zipL at hi
    rw [List.getElem?_zipWith] at hi
    cases h1 : (sorts.map D.str)[i]? with
    | none => rw [h1] at hi; cases hi
    | some x =>
      cases h2 : args[i]? with
      | none => rw [h1, h2] at hi; cases hi
      | some a =>
        rw [h1, h2] at hi
        rw [List.getElem?_map] at h1
        cases h3 : sorts[i]? with
        | none => rw [h3] at h1; cases h1
        | some s => rw [h3] at h1; cases h1; cases hi; exact ⟨s, a, rfl, rfl, rfl⟩
  have hll : (zipL (sorts.map D.str) args).length = sorts.length := by unfold zipL; rw [List.length_zipWith, List.length_map, hl, Nat.min_self]
  refine for_wp (fun i ρ S' => S = S' ∧ (∀ j s a, j < i → sorts[j]? = some s → args[j]? = some a → fitB len cs s a = true) ∧ ∃ x y, ρ = [some (.tup (.str w :: args)), some (.int len), some (.tup (cs.map .int)), some (.tup (sorts.map .str)), x, y]) ⟨rfl, fun j _ _ h => absurd h (Nat.not_lt_zero _), _, _, rfl⟩ (fun _ _ _ _ => trivial) ?_ ?_
  · rintro i d ρ S' hi ⟨rfl, hk, x, y, rfl⟩
    obtain ⟨s, a, h1, h2, rfl⟩ := hat i d hi
    refine ⟨_, rfl, ?_⟩
    unfold b_sure_1
    walk_at "vc"
    have ha := List.mem_of_getElem? h2
    refine fits_wp (n := n) (hso s (List.mem_of_getElem? h1)) (by omega) (plL_mem.mp hd a ha) (hz a ha) ?_
    cases hf : fitB len cs s a with
    | true =>
      walk_at "vc"
      refine ⟨fun j s' a' hj h3 h4 => ?_, _, _, rfl⟩
      rcases Nat.lt_or_ge j i with z | z
      · exact hk j s' a' z h3 h4
      · have : j = i := by omega
        subst this
        rw [h1] at h3; cases h3
        rw [h2] at h4; cases h4
        exact hf
    | false =>
      walk_at "vc"
      rw [closeL_same (by simp)]
      refine e ?_
      cases ho : okA len cs sorts args with
      | false => rfl
      | true => rw [okA_take.mp ho i s a h1 h2] at hf; cases hf
  · rintro ρ S' ⟨rfl, hk, x, y, rfl⟩
    rw [closeD_same]
    refine q (okA_take.mpr fun i s a h1 h2 => hk i s a ?_ h1 h2)
    rw [hll]
    exact (List.getElem?_eq_some_iff.mp h1).1
set_option maxHeartbeats 8000000 in
theorem step_of_wp {w c : Str} {sorts : List Str} {args : List D} {len : Int} {cs : List Int} {n : Nat} {S : Store} {Q : D → Store → Prop} {E : XP} (hw : (w, sorts) ∈ formL) (hc : (w, c) ∈ clsL) (hl : args.length = sorts.length) (hn : n ≤ 59) (hd : plL false (n + 2) args = true) (hz : ∀ d ∈ args, ∀ ds, d = .tup ds → ds.length ≤ 1000)
    (q : okA len cs sorts args = true → Q (.obj c ["form"] [.tup (.str w :: args)]) S) (e : okA len cs sorts args = false → E "NoStep" [] [] S) : (f_step_of [.tup (.str w :: args), .int len, .tup (cs.map .int)] S).wp Q E := by
  have hs : PyData.strOk w = true := (show ∀ p ∈ formL, PyData.strOk p.1 = true by decide +kernel) _ hw
  have hlo : ∀ k, loL k args = true := fun k => pl_loL args (n + 2) k hd
  have hlo' : loL S.length [D.tup (.str w :: args)] = true := by simp [hlo]
  refine run_wp ?_
  walk_at "vc"
  unfold m_step_of
  walk_at "nx"
  refine sure_wp hw hl hn hs hd hz (fun hok => ?_) (fun hok => ?_)
  · have q := q hok
    clear e
    walk_at "vc"
    walk_at "go"
    unfold clsL at hc
    rcases List.mem_append.mp hc with hc | hc
    · walk_at "nx"
      refine num_step hc (hlo _) ?_
      walk_at "vc"
      walk_at "go"
      walk_at "st"
      walk_at "st"
      walk_at "vc"
      exact closeR_eq (closeD_obj0 hlo') q
    · walk_at "nx"
      refine num_none hc ?_
      walk_at "vc"
      walk_at "go"
      rcases List.mem_append.mp hc with hc | hc
      · walk_at "nx"
        refine nam_step hc (hlo _) ?_
        walk_at "vc"
        walk_at "go"
        walk_at "st"
        walk_at "vc"
        exact closeR_eq (closeD_obj0 hlo') q
      · walk_at "nx"
        refine nam_none hc ?_
        walk_at "vc"
        walk_at "go"
        walk_at "nx"
        refine let_step hc (hlo _) ?_
        walk_at "vc"
        walk_at "go"
        walk_at "vc"
        exact closeR_eq (closeD_obj0 hlo') q
  · rw [closeL_same (by simp)]
    exact e hok
end Ev.K17
namespace Ev.K17
open PySem PySem.Spec PyProof.Rows L2 Ev
theorem m3p : ((0 : Int) < 3) = True := eq_true (by decide)
theorem erase_perm {α : Type} : ∀ {xs : List α} {d : Nat} {z : α}, xs[d]? = some z → (z :: xs.eraseIdx d).Perm xs
  | x :: xs, 0, z, h => by cases h; exact List.Perm.refl _
  | x :: xs, d + 1, z, h => by
    rw [List.getElem?_cons_succ] at h
    exact (List.Perm.swap x z _).trans ((erase_perm h).cons x)
theorem difI_nodup {ns : List Int} (h : ns.Nodup) : difI ns = ns := by
  unfold difI
  rw [RZ.firstMet_nodup h ns.length (Nat.le_refl _), List.take_length]
theorem kindD_tup {k : Int} {r : List D} : kindD (.tup (.int k :: r)) = k := rfl
theorem lines_gen {S : Store} {k n : Nat} {len : Int} {Q : D → Store → Prop} {E : XP} (h : Stt k n S) (hn : n < 2 ^ 50) (h0 : 0 ≤ len) (h1 : len < 1000)
    (q : ∀ (d : D) (S' : Store), Di k S S' → linesB len d = true → (∃ ds, d = .tup ds ∧ ds.length ≤ 13) → d.pl true 2 = true → Q d S') : (f__law_lines [.ref k, .int len] S).wp Q E := by
  have hkl := h.lt
  have er : rangeL 0 (13 : Int).toNat = (iota 13).map D.int := range_iota
  refine run_wp ?_
  walk_at "vc"
  unfold m__law_lines
  walk_at "nx"
  rw [if_pos (show In62 (13 : Int) from ⟨by decide, by decide⟩)]
  walk_at "vc"
  rw [if_pos (show (rangeL 0 (13 : Int).toNat).length ≤ 2 ^ 24 by rw [er, List.length_map, iota_len]; decide), er]
  walk_at "vc"
  walk_at "go"
  walk_at "st"
  unfold l__law_lines_1
  walk_at "nx"
  refine digitT_wp h (by omega) (by omega) (by omega) fun a S1 g1 l1 st1 a0 a1 => ?_
  rw [← l1]
  walk_at "vc"
  refine digitT_wp st1 (by omega) (by omega) (by omega) fun b S2 g2 l2 st2 b0 b1 => ?_
  rw [← l2]
  walk_at "vc"
  refine digitT_wp st2 (by omega) (by omega) (by omega) fun c S3 g3 l3 st3 c0 c1 => ?_
  rw [← l3]
  have hi : ∃ m : Nat, m < 13 ∧ idxD (.lst [.int a, .int b]) (.int c) (S3 ++ [.lst ((iota 13).map .int), .lst []]) = some (.int (m : Nat)) := by
    have hc : c = 0 ∨ c = 1 := by omega
    rcases hc with rfl | rfl
    · exact ⟨a.toNat, by omega, by show atI [D.int a, D.int b] 0 = _; rw [atI_nat (d := .int a) (by decide) rfl, Int.toNat_of_nonneg a0]⟩
    · exact ⟨b.toNat, by omega, by show atI [D.int a, D.int b] 1 = _; rw [atI_nat (d := .int b) (by decide) rfl, Int.toNat_of_nonneg b0]⟩
  obtain ⟨m, hm, hi⟩ := hi
  walk_at "vc"
  rw [hi]
  walk_at "vc"
  have e1 : (1 : Int) + (m : Nat) = ((m + 1 : Nat) : Int) := by omega
  rw [e1, if_pos (show In62 ((m + 1 : Nat) : Int) from ⟨by omega, by omega⟩)]
  walk_at "vc"
  have hlen : (rangeL 0 ((m + 1 : Nat) : Int).toNat).length = m + 1 := by rw [range_len, Int.toNat_natCast]
  refine for_wp (fun i ρ S' => ∃ (U : Store) (ks : List Int) (ls : List D) (x0 x1 x2 x3 x4 : Option D), Di k S U ∧ Stt k (n + 3 + 5 * i) U ∧ ks.length + i = 13 ∧ ls.length = i ∧ (∀ z ∈ ks, 0 ≤ z ∧ z ≤ 12) ∧ (ls.map kindD ++ ks).Nodup ∧ (∀ d ∈ ls, lineB len d = true ∧ d.pl true 1 = true) ∧ S' = U ++ [.lst (ks.map .int), .lst ls] ∧ ρ = [some (.ref k), some (.int len), some (.ref U.length), some (.ref (U.length + 1)), x0, x1, x2, x3, x4]) ?_ (fun _ _ _ _ => trivial) ?_ ?_
  · exact ⟨S3, iota 13, [], _, _, _, _, _, g1.trans (g2.trans g3), st3.mono (by omega), by rw [iota_len], rfl, fun z hz => by have := iota_in.mp hz; omega, iota_nd, (fun d hd => nomatch hd), rfl, rfl⟩
  · rintro i d ρ S' hi ⟨U, ks, ls, x0, x1, x2, x3, x4, gU, stU, hk, hl, hks, hnd, hls, rfl, rfl⟩
    obtain ⟨rfl, hi2⟩ := range_at hi
    rw [Int.toNat_natCast] at hi2
    refine ⟨_, rfl, ?_⟩
    unfold b__law_lines_1
    walk_at "nx"
    have hln : bltD .len [.ref U.length] (U ++ [.lst (ks.map .int), .lst ls]) = some (.int (ks.length : Nat)) := by
      rw [blt_lenA (d := .ref U.length) (ds := ks.map .int) (by rw [seqA_ref, getT0]; rfl) (fun x h => nomatch h), List.length_map]
    rw [hln]
    walk_at "vc"
    refine digitT_wp stU (by omega) (by omega) (by omega) fun j U1 gj lj st hj0 hj1 => ?_
    rw [← lj]
    obtain ⟨jn, rfl⟩ := Int.eq_ofNat_of_zero_le hj0
    have hjn : jn < ks.length := by omega
    walk_at "vc"
    have hq : seqIndex? (jn : Int) (ks.map D.int).length = some jn := (ixN_seq (ixn_nat (by rw [List.length_map]; exact hjn))).1
    have hz : (ks.map D.int)[jn]? = some (.int ks[jn]) := by rw [List.getElem?_map, List.getElem?_eq_getElem hjn]; rfl
    rw [if_pos (show In63 (jn : Int) from ⟨by omega, by omega⟩), hq]
    walk_at "vc"
    rw [hz]
    walk_at "vc"
    walk_at "go"
    have em : (ks.map D.int).eraseIdx jn = (ks.eraseIdx jn).map D.int := by
      rw [List.eraseIdx_eq_take_drop_succ, List.eraseIdx_eq_take_drop_succ, List.map_append, List.map_take, List.map_drop]
    rw [em]
    walk_at "nx"
    refine digitT_wp st (by omega) (by omega) (by omega) fun nu U2 g2 l2 st nu0 nu1 => ?_
    rw [← l2]
    walk_at "vc"
    refine digitT_wp st (by omega) (by omega) (by omega) fun na U3 g3 l3 st na0 na1 => ?_
    rw [← l3]
    walk_at "vc"
    walk_at "go"
    walk_at "nx"
    refine digitT_wp st (by omega) (by omega) (by omega) fun se U4 g4 l4 st se0 se1 => ?_
    rw [← l4]
    have p3 : (0 : Int) < 3 := by decide
    walk_at "vc"
    rw [if_pos p3]
    walk_at "vc"
    walk_at "go"
    walk_at "vc"
    refine digitT_wp st (by omega) (by omega) (by omega) fun pl U5 g5 l5 st pl0 pl1 => ?_
    rw [← l5]
    walk_at "vc"
    rw [if_pos (show ls.length < sizeLine from sz_lt (by omega))]
    walk_at "vc"
    obtain ⟨hj, ej⟩ := List.getElem?_eq_some_iff.mp (show ks[jn]? = some ks[jn] from List.getElem?_eq_getElem hjn)
    have hmem : ks[jn] ∈ ks := List.getElem_mem hjn
    have hperm : (ks[jn] :: ks.eraseIdx jn).Perm ks := erase_perm (List.getElem?_eq_getElem hjn)
    have hs0 := Int.emod_nonneg (na + 1 + se) (b := 3) (by decide)
    have hs1 := Int.emod_lt_of_pos (na + 1 + se) (b := 3) (by decide)
    have hne : na ≠ (na + 1 + se) % 3 := by omega
    refine ⟨U5, ks.eraseIdx jn, ls ++ [.tup [.int ks[jn], .int nu, .int na, .int ((na + 1 + se) % 3), .int pl]], _, _, _, _, _, gU.trans (gj.trans (g2.trans (g3.trans (g4.trans g5)))), st.mono (by omega), by rw [List.length_eraseIdx_of_lt hjn]; omega, by simp [hl], fun z hz => hks z (List.mem_of_mem_eraseIdx hz), ?_, ?_, rfl, rfl⟩
    · rw [List.map_append, List.append_assoc]
      refine (List.Perm.nodup_iff ?_).mpr hnd
      exact List.Perm.append_left _ hperm
    · intro d hd
      rcases List.mem_append.mp hd with z | z
      · exact hls d z
      · simp only [List.mem_cons, List.not_mem_nil, or_false] at z
        subst z
        have := hks _ hmem
        refine ⟨?_, by simp [D.pl, plL]⟩
        simp only [lineB, fromB, neI, Bool.and_eq_true, decide_eq_true_eq]
        refine ⟨⟨⟨⟨⟨⟨?_, ?_⟩, ?_, ?_⟩, ?_, ?_⟩, ?_, ?_⟩, ?_, ?_⟩, ?_⟩ <;> first | omega | exact hne
  · rintro ρ S' ⟨U, ks, ls, x0, x1, x2, x3, x4, gU, stU, hk, hl, hks, hnd, hls, rfl, rfl⟩
    rw [hlen] at hk hl stU
    walk_at "go"
    walk_at "vc"
    rw [blt_tupleA (ds := ls) (by rw [seqA_ref, getT]; rfl)]
    walk_at "vc"
    have hpl : (D.tup ls).pl true 2 = true := by rw [pl_tup]; exact plL_mem.mpr fun d hd => (hls d hd).2
    refine closeR_di gU (pl_lo _ 2 _ hpl) (q _ _ gU ?_ ⟨ls, rfl, by omega⟩ hpl)
    cases ls with
    | nil => simp at hl
    | cons d ds =>
      show ((d :: ds).all (lineB len) && decide ((difI ((d :: ds).map kindD)).length = (d :: ds).length)) = true
      rw [difI_nodup (List.nodup_append.mp hnd).1, List.length_map, decide_eq_true rfl, Bool.and_true, List.all_eq_true]
      exact fun x hx => (hls x hx).1
end Ev.K17
namespace Ev.K17
open PySem PySem.Spec PyProof.Rows L2 Ev
/-! ### what the law draws fits -/
theorem pl_up {nb : Bool} : ∀ (n : Nat) (d : D), d.pl nb n = true → d.pl nb (n + 1) = true := by
  intro n
  induction n with
  | zero => intro d h; cases d <;> first | (unfold D.pl at h ⊢; exact h) | (unfold D.pl at h; cases h)
  | succ n ih =>
    intro d h
    cases d with
    | tup ds =>
      rw [pl_tup] at h ⊢
      exact plL_mem.mpr fun x hx => ih x (plL_mem.mp h x hx)
    | _ => first | (unfold D.pl at h ⊢; exact h) | (unfold D.pl at h; cases h)
theorem pl_weak : ∀ (n : Nat) (d : D), d.pl true n = true → d.pl false n = true := by
  intro n
  induction n with
  | zero => intro d h; cases d <;> first | (unfold D.pl at h ⊢; exact h) | (unfold D.pl at h; cases h) | (unfold D.pl; rfl)
  | succ n ih =>
    intro d h
    cases d with
    | tup ds =>
      rw [pl_tup] at h ⊢
      exact plL_mem.mpr fun x hx => ih x (plL_mem.mp h x hx)
    | _ => first | (unfold D.pl at h ⊢; exact h) | (unfold D.pl at h; cases h) | (unfold D.pl; rfl)
theorem fit_from0 {len : Int} {cs : List Int} {s : Str} {lo hi i : Int} (h : (fitTb len cs).lookup s = some (fromB lo hi)) (h0 : lo ≤ i) (h1 : i ≤ hi) : fitB len cs s (.int i) = true := by
  rw [fitB_at h]; simp only [fromB]; rw [decide_eq_true h0, decide_eq_true h1]; rfl
theorem fit_box {len : Int} {cs : List Int} {i : Int} (h0 : 0 ≤ i) (h1 : i ≤ 2) : fitB len cs "box" (.int i) = true := fit_from0 (lo := 0) (hi := 2) (by unfold fitTb; walk_at "ls") h0 h1
theorem fit_set {len : Int} {cs : List Int} {i : Int} (h0 : 0 ≤ i) (h1 : i ≤ 1) : fitB len cs "set" (.int i) = true := fit_from0 (lo := 0) (hi := 1) (by unfold fitTb; walk_at "ls") h0 h1
theorem fit_place {len : Int} {cs : List Int} {i : Int} (h0 : 0 ≤ i) (h1 : i ≤ len) : fitB len cs "place" (.int i) = true := fit_from0 (lo := 0) (hi := len) (by unfold fitTb; walk_at "ls") h0 h1
theorem fit_amount {len : Int} {cs : List Int} {i : Int} (h0 : 1 ≤ i) (h1 : i ≤ 20) : fitB len cs "amount" (.int i) = true := fit_from0 (lo := 1) (hi := 20) (by unfold fitTb; walk_at "ls") h0 h1
theorem fit_crowd {len : Int} {cs : List Int} {i : Int} (h0 : 0 ≤ i) (h1 : i ≤ 6) : fitB len cs "crowd" (.int i) = true := fit_from0 (lo := 0) (hi := 6) (by unfold fitTb; walk_at "ls") h0 h1
theorem fit_kind {len : Int} {cs : List Int} {i : Int} (h0 : 1 ≤ i) (h1 : i ≤ 12) : fitB len cs "kind" (.int i) = true := fit_from0 (lo := 1) (hi := 12) (by unfold fitTb; walk_at "ls") h0 h1
theorem fit_from {len : Int} {cs : List Int} {i : Int} (h0 : (-1) ≤ i) (h1 : i ≤ 2) : fitB len cs "from" (.int i) = true := fit_from0 (lo := (-1)) (hi := 2) (by unfold fitTb; walk_at "ls") h0 h1
theorem fit_role {len : Int} {cs : List Int} {i : Int} (h0 : 0 ≤ i) (h1 : i ≤ ((cs.length : Int) - 1)) : fitB len cs "role" (.int i) = true := fit_from0 (lo := 0) (hi := ((cs.length : Int) - 1)) (by unfold fitTb; walk_at "ls") h0 h1
theorem fit_number {len : Int} {cs : List Int} {i : Int} : fitB len cs "number" (.int i) = true := by
  rw [fitB_at (f := wholeB) (by unfold fitTb; walk_at "ls")]; rfl
theorem fit_single {len : Int} {cs : List Int} {i : Int} (h0 : 0 ≤ i) (h1 : i < cs.length) (h2 : ati cs i = 1) : fitB len cs "single" (.int i) = true := by
  rw [fitB_at (f := oneB cs) (by unfold fitTb; walk_at "ls")]
  simp only [oneB]
  rw [decide_eq_true h0, decide_eq_true (by omega : i ≤ (cs.length : Int) - 1), decide_eq_true h2]; rfl
theorem fit_lines {len : Int} {cs : List Int} {d : D} (h : linesB len d = true) : fitB len cs "lines" d = true := by
  rw [fitB_at (f := linesB len) (by unfold fitTb; walk_at "ls")]; exact h
theorem ok_nil {len : Int} {cs : List Int} : okA len cs [] [] = true := rfl
theorem ok_cons {len : Int} {cs : List Int} {s : Str} {d : D} {ss : List Str} {ds : List D} (h : fitB len cs s d = true) (r : okA len cs ss ds = true) : okA len cs (s :: ss) (d :: ds) = true := by
  unfold okA; rw [h, r]; rfl
/-- a step of the program, as the law draws it -/
structure Stp (len : Int) (cs : List Int) (told : D) : Prop where
  ex : ∃ (w c : Str) (sorts : List Str) (args : List D), told = .tup (.str w :: args) ∧ (w, sorts) ∈ formL ∧ (w, c) ∈ clsL ∧ args.length = sorts.length ∧ okA len cs sorts args = true ∧ plL true 2 args = true ∧ (∀ d ∈ args, ∀ ds, d = .tup ds → ds.length ≤ 13)
theorem stp_flat {len : Int} {cs : List Int} {w c : Str} {sorts : List Str} {args : List D} (h1 : (w, sorts) ∈ formL) (h2 : (w, c) ∈ clsL) (h3 : args.length = sorts.length) (h4 : okA len cs sorts args = true) (h5 : ∀ d ∈ args, ∃ i, d = .int i) : Stp len cs (.tup (.str w :: args)) := by
  refine ⟨w, c, sorts, args, rfl, h1, h2, h3, h4, plL_mem.mpr fun d hd => ?_, fun d hd ds e => ?_⟩
  · obtain ⟨i, rfl⟩ := h5 d hd; unfold D.pl; rfl
  · obtain ⟨i, rfl⟩ := h5 d hd; cases e
theorem w_put : (("put" : Str), (["box", "number"] : List Str)) ∈ formL := by unfold formL; exact .head _
theorem c_put : (("put" : Str), ("Put" : Str)) ∈ clsL := by unfold clsL numL namL letL; exact .head _
theorem w_copy : (("copy" : Str), (["box", "box"] : List Str)) ∈ formL := by unfold formL; exact .tail _ (.head _)
theorem c_copy : (("copy" : Str), ("Copy" : Str)) ∈ clsL := by unfold clsL numL namL letL; exact .tail _ (.head _)
theorem w_raise : (("raise" : Str), (["box", "number"] : List Str)) ∈ formL := by unfold formL; exact .tail _ (.tail _ (.head _))
theorem c_raise : (("raise" : Str), ("Raise" : Str)) ∈ clsL := by unfold clsL numL namL letL; exact .tail _ (.tail _ (.head _))
theorem w_sum : (("sum" : Str), (["box", "box"] : List Str)) ∈ formL := by unfold formL; exact .tail _ (.tail _ (.tail _ (.head _)))
theorem c_sum : (("sum" : Str), ("Sum" : Str)) ∈ clsL := by unfold clsL numL namL letL; exact .tail _ (.tail _ (.tail _ (.head _)))
theorem w_choose : (("choose" : Str), (["box", "amount"] : List Str)) ∈ formL := by unfold formL; exact .tail _ (.tail _ (.tail _ (.tail _ (.head _))))
theorem c_choose : (("choose" : Str), ("Choose" : Str)) ∈ clsL := by unfold clsL numL namL letL; exact .tail _ (.tail _ (.tail _ (.tail _ (.head _))))
theorem w_less : (("less" : Str), (["box", "number", "place"] : List Str)) ∈ formL := by unfold formL; exact .tail _ (.tail _ (.tail _ (.tail _ (.tail _ (.head _)))))
theorem c_less : (("less" : Str), ("Less" : Str)) ∈ clsL := by unfold clsL numL namL letL; exact .tail _ (.tail _ (.tail _ (.tail _ (.tail _ (.head _)))))
theorem w_before : (("before" : Str), (["box", "box", "place"] : List Str)) ∈ formL := by unfold formL; exact .tail _ (.tail _ (.tail _ (.tail _ (.tail _ (.tail _ (.head _))))))
theorem c_before : (("before" : Str), ("Before" : Str)) ∈ clsL := by unfold clsL numL namL letL; exact .tail _ (.tail _ (.tail _ (.tail _ (.tail _ (.tail _ (.head _))))))
theorem w_go : (("go" : Str), (["place"] : List Str)) ∈ formL := by unfold formL; exact .tail _ (.tail _ (.tail _ (.tail _ (.tail _ (.tail _ (.tail _ (.head _)))))))
theorem c_go : (("go" : Str), ("Go" : Str)) ∈ clsL := by unfold clsL numL namL letL; exact .tail _ (.tail _ (.tail _ (.tail _ (.tail _ (.tail _ (.tail _ (.head _)))))))
theorem w_me : (("me" : Str), (["box"] : List Str)) ∈ formL := by unfold formL; exact .tail _ (.tail _ (.tail _ (.tail _ (.tail _ (.tail _ (.tail _ (.tail _ (.head _))))))))
theorem c_me : (("me" : Str), ("Me" : Str)) ∈ clsL := by unfold clsL numL namL letL; exact .tail _ (.tail _ (.tail _ (.tail _ (.tail _ (.tail _ (.tail _ (.tail _ (.head _))))))))
theorem w_only : (("only" : Str), (["box", "single"] : List Str)) ∈ formL := by unfold formL; exact .tail _ (.tail _ (.tail _ (.tail _ (.tail _ (.tail _ (.tail _ (.tail _ (.tail _ (.head _)))))))))
theorem c_only : (("only" : Str), ("Only" : Str)) ∈ clsL := by unfold clsL numL namL letL; exact .tail _ (.tail _ (.tail _ (.tail _ (.tail _ (.tail _ (.tail _ (.tail _ (.tail _ (.head _)))))))))
theorem w_pick : (("pick" : Str), (["box", "role"] : List Str)) ∈ formL := by unfold formL; exact .tail _ (.tail _ (.tail _ (.tail _ (.tail _ (.tail _ (.tail _ (.tail _ (.tail _ (.tail _ (.head _))))))))))
theorem c_pick : (("pick" : Str), ("Pick" : Str)) ∈ clsL := by unfold clsL numL namL letL; exact .tail _ (.tail _ (.tail _ (.tail _ (.tail _ (.tail _ (.tail _ (.tail _ (.tail _ (.tail _ (.head _))))))))))
theorem w_alike : (("alike" : Str), (["box", "box", "place"] : List Str)) ∈ formL := by unfold formL; exact .tail _ (.tail _ (.tail _ (.tail _ (.tail _ (.tail _ (.tail _ (.tail _ (.tail _ (.tail _ (.tail _ (.head _)))))))))))
theorem c_alike : (("alike" : Str), ("Alike" : Str)) ∈ clsL := by unfold clsL numL namL letL; exact .tail _ (.tail _ (.tail _ (.tail _ (.tail _ (.tail _ (.tail _ (.tail _ (.tail _ (.tail _ (.tail _ (.head _)))))))))))
theorem w_all : (("all" : Str), (["set", "role"] : List Str)) ∈ formL := by unfold formL; exact .tail _ (.tail _ (.tail _ (.tail _ (.tail _ (.tail _ (.tail _ (.tail _ (.tail _ (.tail _ (.tail _ (.tail _ (.head _))))))))))))
theorem c_all : (("all" : Str), ("All" : Str)) ∈ clsL := by unfold clsL numL namL letL; exact .tail _ (.tail _ (.tail _ (.tail _ (.tail _ (.tail _ (.tail _ (.tail _ (.tail _ (.tail _ (.tail _ (.tail _ (.head _))))))))))))
theorem w_empty : (("empty" : Str), (["set"] : List Str)) ∈ formL := by unfold formL; exact .tail _ (.tail _ (.tail _ (.tail _ (.tail _ (.tail _ (.tail _ (.tail _ (.tail _ (.tail _ (.tail _ (.tail _ (.tail _ (.head _)))))))))))))
theorem c_empty : (("empty" : Str), ("Empty" : Str)) ∈ clsL := by unfold clsL numL namL letL; exact .tail _ (.tail _ (.tail _ (.tail _ (.tail _ (.tail _ (.tail _ (.tail _ (.tail _ (.tail _ (.tail _ (.tail _ (.tail _ (.head _)))))))))))))
theorem w_join : (("join" : Str), (["set", "box"] : List Str)) ∈ formL := by unfold formL; exact .tail _ (.tail _ (.tail _ (.tail _ (.tail _ (.tail _ (.tail _ (.tail _ (.tail _ (.tail _ (.tail _ (.tail _ (.tail _ (.tail _ (.head _))))))))))))))
theorem c_join : (("join" : Str), ("Join" : Str)) ∈ clsL := by unfold clsL numL namL letL; exact .tail _ (.tail _ (.tail _ (.tail _ (.tail _ (.tail _ (.tail _ (.tail _ (.tail _ (.tail _ (.tail _ (.tail _ (.tail _ (.tail _ (.head _))))))))))))))
theorem w_out : (("out" : Str), (["box", "set", "place"] : List Str)) ∈ formL := by unfold formL; exact .tail _ (.tail _ (.tail _ (.tail _ (.tail _ (.tail _ (.tail _ (.tail _ (.tail _ (.tail _ (.tail _ (.tail _ (.tail _ (.tail _ (.tail _ (.head _)))))))))))))))
theorem c_out : (("out" : Str), ("Out" : Str)) ∈ clsL := by unfold clsL numL namL letL; exact .tail _ (.tail _ (.tail _ (.tail _ (.tail _ (.tail _ (.tail _ (.tail _ (.tail _ (.tail _ (.tail _ (.tail _ (.tail _ (.tail _ (.tail _ (.head _)))))))))))))))
theorem w_many : (("many" : Str), (["set", "crowd", "place"] : List Str)) ∈ formL := by unfold formL; exact .tail _ (.tail _ (.tail _ (.tail _ (.tail _ (.tail _ (.tail _ (.tail _ (.tail _ (.tail _ (.tail _ (.tail _ (.tail _ (.tail _ (.tail _ (.tail _ (.head _))))))))))))))))
theorem c_many : (("many" : Str), ("Many" : Str)) ∈ clsL := by unfold clsL numL namL letL; exact .tail _ (.tail _ (.tail _ (.tail _ (.tail _ (.tail _ (.tail _ (.tail _ (.tail _ (.tail _ (.tail _ (.tail _ (.tail _ (.tail _ (.tail _ (.tail _ (.head _))))))))))))))))
theorem w_send : (("send" : Str), (["box", "kind", "box", "box"] : List Str)) ∈ formL := by unfold formL; exact .tail _ (.tail _ (.tail _ (.tail _ (.tail _ (.tail _ (.tail _ (.tail _ (.tail _ (.tail _ (.tail _ (.tail _ (.tail _ (.tail _ (.tail _ (.tail _ (.tail _ (.head _)))))))))))))))))
theorem c_send : (("send" : Str), ("Send" : Str)) ∈ clsL := by unfold clsL numL namL letL; exact .tail _ (.tail _ (.tail _ (.tail _ (.tail _ (.tail _ (.tail _ (.tail _ (.tail _ (.tail _ (.tail _ (.tail _ (.tail _ (.tail _ (.tail _ (.tail _ (.tail _ (.head _)))))))))))))))))
theorem w_take : (("take" : Str), (["from", "lines"] : List Str)) ∈ formL := by unfold formL; exact .tail _ (.tail _ (.tail _ (.tail _ (.tail _ (.tail _ (.tail _ (.tail _ (.tail _ (.tail _ (.tail _ (.tail _ (.tail _ (.tail _ (.tail _ (.tail _ (.tail _ (.tail _ (.head _))))))))))))))))))
theorem c_take : (("take" : Str), ("Take" : Str)) ∈ clsL := by unfold clsL numL namL letL; exact .tail _ (.tail _ (.tail _ (.tail _ (.tail _ (.tail _ (.tail _ (.tail _ (.tail _ (.tail _ (.tail _ (.tail _ (.tail _ (.tail _ (.tail _ (.tail _ (.tail _ (.tail _ (.head _))))))))))))))))))
theorem w_bell : (("bell" : Str), ([] : List Str)) ∈ formL := by unfold formL; exact .tail _ (.tail _ (.tail _ (.tail _ (.tail _ (.tail _ (.tail _ (.tail _ (.tail _ (.tail _ (.tail _ (.tail _ (.tail _ (.tail _ (.tail _ (.tail _ (.tail _ (.tail _ (.tail _ (.head _)))))))))))))))))))
theorem c_bell : (("bell" : Str), ("Bell" : Str)) ∈ clsL := by unfold clsL numL namL letL; exact .tail _ (.tail _ (.tail _ (.tail _ (.tail _ (.tail _ (.tail _ (.tail _ (.tail _ (.tail _ (.tail _ (.tail _ (.tail _ (.tail _ (.tail _ (.tail _ (.tail _ (.tail _ (.tail _ (.head _)))))))))))))))))))
theorem s_put' {len : Int} {cs : List Int} {a0 a1 : Int} (ha0 : 0 ≤ a0) (ga0 : a0 ≤ 2) : Stp len cs (.tup [.str "put", .int a0, .int a1]) :=
  stp_flat w_put c_put rfl (ok_cons (fit_box ha0 ga0) (ok_cons fit_number ok_nil)) (by intro d hd; simp only [List.mem_cons, List.not_mem_nil, or_false] at hd; rcases hd with rfl | rfl <;> exact ⟨_, rfl⟩)
theorem s_copy' {len : Int} {cs : List Int} {a0 a1 : Int} (ha0 : 0 ≤ a0) (ga0 : a0 ≤ 2) (ha1 : 0 ≤ a1) (ga1 : a1 ≤ 2) : Stp len cs (.tup [.str "copy", .int a0, .int a1]) :=
  stp_flat w_copy c_copy rfl (ok_cons (fit_box ha0 ga0) (ok_cons (fit_box ha1 ga1) ok_nil)) (by intro d hd; simp only [List.mem_cons, List.not_mem_nil, or_false] at hd; rcases hd with rfl | rfl <;> exact ⟨_, rfl⟩)
theorem s_raise' {len : Int} {cs : List Int} {a0 a1 : Int} (ha0 : 0 ≤ a0) (ga0 : a0 ≤ 2) : Stp len cs (.tup [.str "raise", .int a0, .int a1]) :=
  stp_flat w_raise c_raise rfl (ok_cons (fit_box ha0 ga0) (ok_cons fit_number ok_nil)) (by intro d hd; simp only [List.mem_cons, List.not_mem_nil, or_false] at hd; rcases hd with rfl | rfl <;> exact ⟨_, rfl⟩)
theorem s_sum' {len : Int} {cs : List Int} {a0 a1 : Int} (ha0 : 0 ≤ a0) (ga0 : a0 ≤ 2) (ha1 : 0 ≤ a1) (ga1 : a1 ≤ 2) : Stp len cs (.tup [.str "sum", .int a0, .int a1]) :=
  stp_flat w_sum c_sum rfl (ok_cons (fit_box ha0 ga0) (ok_cons (fit_box ha1 ga1) ok_nil)) (by intro d hd; simp only [List.mem_cons, List.not_mem_nil, or_false] at hd; rcases hd with rfl | rfl <;> exact ⟨_, rfl⟩)
theorem s_choose' {len : Int} {cs : List Int} {a0 a1 : Int} (ha0 : 0 ≤ a0) (ga0 : a0 ≤ 2) (ha1 : 1 ≤ a1) (ga1 : a1 ≤ 20) : Stp len cs (.tup [.str "choose", .int a0, .int a1]) :=
  stp_flat w_choose c_choose rfl (ok_cons (fit_box ha0 ga0) (ok_cons (fit_amount ha1 ga1) ok_nil)) (by intro d hd; simp only [List.mem_cons, List.not_mem_nil, or_false] at hd; rcases hd with rfl | rfl <;> exact ⟨_, rfl⟩)
theorem s_less' {len : Int} {cs : List Int} {a0 a1 a2 : Int} (ha0 : 0 ≤ a0) (ga0 : a0 ≤ 2) (ha2 : 0 ≤ a2) (ga2 : a2 ≤ len) : Stp len cs (.tup [.str "less", .int a0, .int a1, .int a2]) :=
  stp_flat w_less c_less rfl (ok_cons (fit_box ha0 ga0) (ok_cons fit_number (ok_cons (fit_place ha2 ga2) ok_nil))) (by intro d hd; simp only [List.mem_cons, List.not_mem_nil, or_false] at hd; rcases hd with rfl | rfl | rfl <;> exact ⟨_, rfl⟩)
theorem s_before' {len : Int} {cs : List Int} {a0 a1 a2 : Int} (ha0 : 0 ≤ a0) (ga0 : a0 ≤ 2) (ha1 : 0 ≤ a1) (ga1 : a1 ≤ 2) (ha2 : 0 ≤ a2) (ga2 : a2 ≤ len) : Stp len cs (.tup [.str "before", .int a0, .int a1, .int a2]) :=
  stp_flat w_before c_before rfl (ok_cons (fit_box ha0 ga0) (ok_cons (fit_box ha1 ga1) (ok_cons (fit_place ha2 ga2) ok_nil))) (by intro d hd; simp only [List.mem_cons, List.not_mem_nil, or_false] at hd; rcases hd with rfl | rfl | rfl <;> exact ⟨_, rfl⟩)
theorem s_go' {len : Int} {cs : List Int} {a0 : Int} (ha0 : 0 ≤ a0) (ga0 : a0 ≤ len) : Stp len cs (.tup [.str "go", .int a0]) :=
  stp_flat w_go c_go rfl (ok_cons (fit_place ha0 ga0) ok_nil) (by intro d hd; simp only [List.mem_cons, List.not_mem_nil, or_false] at hd; rcases hd with rfl <;> exact ⟨_, rfl⟩)
theorem s_me' {len : Int} {cs : List Int} {a0 : Int} (ha0 : 0 ≤ a0) (ga0 : a0 ≤ 2) : Stp len cs (.tup [.str "me", .int a0]) :=
  stp_flat w_me c_me rfl (ok_cons (fit_box ha0 ga0) ok_nil) (by intro d hd; simp only [List.mem_cons, List.not_mem_nil, or_false] at hd; rcases hd with rfl <;> exact ⟨_, rfl⟩)
theorem s_only' {len : Int} {cs : List Int} {a0 a1 : Int} (ha0 : 0 ≤ a0) (ga0 : a0 ≤ 2) (ha1 : 0 ≤ a1) (ga1 : a1 < cs.length) (ea1 : ati cs a1 = 1) : Stp len cs (.tup [.str "only", .int a0, .int a1]) :=
  stp_flat w_only c_only rfl (ok_cons (fit_box ha0 ga0) (ok_cons (fit_single ha1 ga1 ea1) ok_nil)) (by intro d hd; simp only [List.mem_cons, List.not_mem_nil, or_false] at hd; rcases hd with rfl | rfl <;> exact ⟨_, rfl⟩)
theorem s_pick' {len : Int} {cs : List Int} {a0 a1 : Int} (ha0 : 0 ≤ a0) (ga0 : a0 ≤ 2) (ha1 : 0 ≤ a1) (ga1 : a1 ≤ ((cs.length : Int) - 1)) : Stp len cs (.tup [.str "pick", .int a0, .int a1]) :=
  stp_flat w_pick c_pick rfl (ok_cons (fit_box ha0 ga0) (ok_cons (fit_role ha1 ga1) ok_nil)) (by intro d hd; simp only [List.mem_cons, List.not_mem_nil, or_false] at hd; rcases hd with rfl | rfl <;> exact ⟨_, rfl⟩)
theorem s_alike' {len : Int} {cs : List Int} {a0 a1 a2 : Int} (ha0 : 0 ≤ a0) (ga0 : a0 ≤ 2) (ha1 : 0 ≤ a1) (ga1 : a1 ≤ 2) (ha2 : 0 ≤ a2) (ga2 : a2 ≤ len) : Stp len cs (.tup [.str "alike", .int a0, .int a1, .int a2]) :=
  stp_flat w_alike c_alike rfl (ok_cons (fit_box ha0 ga0) (ok_cons (fit_box ha1 ga1) (ok_cons (fit_place ha2 ga2) ok_nil))) (by intro d hd; simp only [List.mem_cons, List.not_mem_nil, or_false] at hd; rcases hd with rfl | rfl | rfl <;> exact ⟨_, rfl⟩)
theorem s_all' {len : Int} {cs : List Int} {a0 a1 : Int} (ha0 : 0 ≤ a0) (ga0 : a0 ≤ 1) (ha1 : 0 ≤ a1) (ga1 : a1 ≤ ((cs.length : Int) - 1)) : Stp len cs (.tup [.str "all", .int a0, .int a1]) :=
  stp_flat w_all c_all rfl (ok_cons (fit_set ha0 ga0) (ok_cons (fit_role ha1 ga1) ok_nil)) (by intro d hd; simp only [List.mem_cons, List.not_mem_nil, or_false] at hd; rcases hd with rfl | rfl <;> exact ⟨_, rfl⟩)
theorem s_empty' {len : Int} {cs : List Int} {a0 : Int} (ha0 : 0 ≤ a0) (ga0 : a0 ≤ 1) : Stp len cs (.tup [.str "empty", .int a0]) :=
  stp_flat w_empty c_empty rfl (ok_cons (fit_set ha0 ga0) ok_nil) (by intro d hd; simp only [List.mem_cons, List.not_mem_nil, or_false] at hd; rcases hd with rfl <;> exact ⟨_, rfl⟩)
theorem s_join' {len : Int} {cs : List Int} {a0 a1 : Int} (ha0 : 0 ≤ a0) (ga0 : a0 ≤ 1) (ha1 : 0 ≤ a1) (ga1 : a1 ≤ 2) : Stp len cs (.tup [.str "join", .int a0, .int a1]) :=
  stp_flat w_join c_join rfl (ok_cons (fit_set ha0 ga0) (ok_cons (fit_box ha1 ga1) ok_nil)) (by intro d hd; simp only [List.mem_cons, List.not_mem_nil, or_false] at hd; rcases hd with rfl | rfl <;> exact ⟨_, rfl⟩)
theorem s_out' {len : Int} {cs : List Int} {a0 a1 a2 : Int} (ha0 : 0 ≤ a0) (ga0 : a0 ≤ 2) (ha1 : 0 ≤ a1) (ga1 : a1 ≤ 1) (ha2 : 0 ≤ a2) (ga2 : a2 ≤ len) : Stp len cs (.tup [.str "out", .int a0, .int a1, .int a2]) :=
  stp_flat w_out c_out rfl (ok_cons (fit_box ha0 ga0) (ok_cons (fit_set ha1 ga1) (ok_cons (fit_place ha2 ga2) ok_nil))) (by intro d hd; simp only [List.mem_cons, List.not_mem_nil, or_false] at hd; rcases hd with rfl | rfl | rfl <;> exact ⟨_, rfl⟩)
theorem s_many' {len : Int} {cs : List Int} {a0 a1 a2 : Int} (ha0 : 0 ≤ a0) (ga0 : a0 ≤ 1) (ha1 : 0 ≤ a1) (ga1 : a1 ≤ 6) (ha2 : 0 ≤ a2) (ga2 : a2 ≤ len) : Stp len cs (.tup [.str "many", .int a0, .int a1, .int a2]) :=
  stp_flat w_many c_many rfl (ok_cons (fit_set ha0 ga0) (ok_cons (fit_crowd ha1 ga1) (ok_cons (fit_place ha2 ga2) ok_nil))) (by intro d hd; simp only [List.mem_cons, List.not_mem_nil, or_false] at hd; rcases hd with rfl | rfl | rfl <;> exact ⟨_, rfl⟩)
theorem s_send' {len : Int} {cs : List Int} {a0 a1 a2 a3 : Int} (ha0 : 0 ≤ a0) (ga0 : a0 ≤ 2) (ha1 : 1 ≤ a1) (ga1 : a1 ≤ 12) (ha2 : 0 ≤ a2) (ga2 : a2 ≤ 2) (ha3 : 0 ≤ a3) (ga3 : a3 ≤ 2) : Stp len cs (.tup [.str "send", .int a0, .int a1, .int a2, .int a3]) :=
  stp_flat w_send c_send rfl (ok_cons (fit_box ha0 ga0) (ok_cons (fit_kind ha1 ga1) (ok_cons (fit_box ha2 ga2) (ok_cons (fit_box ha3 ga3) ok_nil)))) (by intro d hd; simp only [List.mem_cons, List.not_mem_nil, or_false] at hd; rcases hd with rfl | rfl | rfl | rfl <;> exact ⟨_, rfl⟩)
theorem s_bell' {len : Int} {cs : List Int}  : Stp len cs (.tup [.str "bell"]) :=
  stp_flat w_bell c_bell rfl ok_nil (fun d hd => nomatch hd)
theorem s_take' {len : Int} {cs : List Int} {a : Int} {d : D} (h0 : -1 ≤ a) (h1 : a ≤ 2) (hl : linesB len d = true) (hd : ∃ ds, d = .tup ds ∧ ds.length ≤ 13) (hp : d.pl true 2 = true) : Stp len cs (.tup [.str "take", .int a, d]) := by
  refine ⟨"take", "Take", ["from", "lines"], [.int a, d], rfl, w_take, c_take, rfl, ok_cons (fit_from h0 h1) (ok_cons (fit_lines hl) ok_nil), ?_, ?_⟩
  · rw [pl_cons, pl_cons, hp]; rfl
  · intro x hx ds e
    simp only [List.mem_cons, List.not_mem_nil, or_false] at hx
    rcases hx with rfl | rfl
    · cases e
    · obtain ⟨ds', e', hl⟩ := hd
      rw [e'] at e; cases e; exact hl
end Ev.K17
namespace Ev.K17
open PySem PySem.Spec PyProof.Rows L2 Ev
theorem number_wp {S : Store} {k n : Nat} {Q : D → Store → Prop} {E : XP} (h : Stt k n S) (hn : n < 2 ^ 50) (q : ∀ (i : Int) (S' : Store), Di k S S' → Stt k (n + 2) S' → Q (.int i) S') : (f__law_number [.ref k] S).wp Q E := by
  have pw : (0 : Int) ≤ 12 ∧ (12 : Int) ≤ 1000000 ∧ (10 : Int).natAbs < 2 ^ 64 := by decide
  have e10 : (10 : Int) ^ (12 : Int).toNat = 1000000000000 := rfl
  refine run_wp ?_
  walk_at "vc"
  unfold m__law_number
  walk_at "vc"
  rw [if_pos pw, e10]
  walk_at "vc"
  rw [mul_small (by decide) (by decide) (by decide) (by decide)]
  walk_at "vc"
  refine digit_wp h (by omega) (by decide) (by decide) fun a S1 g1 st1 a0 a1 => ?_
  walk_at "vc"
  refine digit_wp st1 (by omega) (by decide) (by decide) fun b S2 g2 st2 b0 b1 => ?_
  have hi : ∃ m : Int, idxD (.lst [.int 0, .int 1000000000000]) (.int b) S2 = some (.int m) := by
    have hb : b = 0 ∨ b = 1 := by omega
    rcases hb with rfl | rfl
    · exact ⟨0, atI_nat (by decide) rfl⟩
    · exact ⟨1000000000000, atI_nat (by decide) rfl⟩
  obtain ⟨m, hi⟩ := hi
  walk_at "vc"
  rw [hi]
  walk_at "vc"
  exact closeR_di0 (g1.trans g2) lo_int (q _ _ (g1.trans g2) st2)
def alone (cs : List Int) : List Int := (iota cs.length).filter fun r => decide (ati cs r = 1)
theorem alone_mem {cs : List Int} {z : Int} (h : z ∈ alone cs) : 0 ≤ z ∧ z < cs.length ∧ ati cs z = 1 := by
  obtain ⟨h1, h2⟩ := List.mem_filter.mp h
  have := iota_in.mp h1
  exact ⟨this.1, this.2, of_decide_eq_true h2⟩
theorem alone_comp {cs : List Int} {x0 x1 x2 x4 x5 x6 x7 : Option D} {S : Store} (hz : cs.length ≤ 1000) : q__law_on_names_1 [x0, x1, x2, some (.tup (cs.map .int)), x4, x5, x6, x7] S = .ok (.lst ((alone cs).map .int)) S := by
  have er : rangeL 0 ((cs.length : Nat) : Int).toNat = (iota cs.length).map D.int := by rw [Int.toNat_natCast, range_iota]
  have e2 : (((iota cs.length).map D.int).filter (fun d => match d with | .int r => decide (ati cs r = 1) | _ => false)).map (fun d => d) = (alone cs).map D.int := by
    rw [List.map_id', List.filter_map]; rfl
  rw [← e2]
  unfold q__law_on_names_1
  refine comp_eq (S1 := S) (items := (iota cs.length).map .int) (g := []) ?_ (sz_le (by rw [List.length_map, iota_len]; omega)) (comp_filter (g := []) (fun d => match d with | .int r => decide (ati cs r = 1) | _ => false) (fun d => d) trivial ?_)
  · walk_at "vc"
    rw [len_tupI]
    walk_at "vc"
    rw [if_pos (show In62 ((cs.length : Nat) : Int) from ⟨by omega, by omega⟩), er]
  · intro d hd
    obtain ⟨z, hz, rfl⟩ := List.mem_map.mp hd
    obtain ⟨a, b⟩ := iota_in.mp hz
    refine ⟨_, rfl, ?_, fun _ => ⟨rfl, rfl⟩⟩
    walk_at "vc"
    rw [idxT_int a b]
    walk_at "vc"
theorem on_names_wp {w : Str} {S : Store} {k n : Nat} {len : Int} {cs : List Int} {Q : D → Store → Prop} {E : XP} (hw : w ∈ (["me", "only", "pick", "alike", "all", "empty", "join", "out", "many"] : List Str)) (h : Stt k n S) (hn : n < 2 ^ 50) (h0 : 0 ≤ len) (h1 : len < 1000) (hc0 : 0 < cs.length) (hc1 : cs.length ≤ 100)
    (q : ∀ (d : D) (S' : Store), Di k S S' → Stp len cs d → Q d S') : (f__law_on_names [.ref k, .str w, .int len, .tup (cs.map .int)] S).wp Q E := by
  refine run_wp ?_
  walk_at "vc"
  unfold m__law_on_names
  walk_at "nx"
  refine digit_wp h (by omega) (by omega) (by decide) fun a S1 g1 st1 a0 a1 => ?_
  walk_at "vc"
  walk_at "go"
  simp only [List.mem_cons, List.not_mem_nil, or_false] at hw
  have fin : ∀ {ds : List D} {S' : Store} {T : Store}, Di k S S' → (∀ j, loL j ds = true) → Stp len cs (.tup ds) → closeR S Q (.tup ds) (S' ++ T) := fun g hl hs => closeR_di g (by rw [lo_tup]; exact hl _) (q _ _ g hs)
  have fin0 : ∀ {ds : List D} {S' : Store}, Di k S S' → (∀ j, loL j ds = true) → Stp len cs (.tup ds) → closeR S Q (.tup ds) S' := fun g hl hs => closeR_di0 g (by rw [lo_tup]; exact hl _) (q _ _ g hs)
  rcases hw with rfl | rfl | rfl | rfl | rfl | rfl | rfl | rfl | rfl
  · -- me
    walk_at "nx"
    walk_at "sq"
    walk_at "vc"
    exact fin0 g1 (by simp) (s_me' a0 (by omega))
  · -- only
    walk_at "if0"
    walk_at "nx"
    walk_at "sq"
    walk_at "vc"
    walk_at "nx"
    rw [alone_comp (by omega)]
    walk_at "vc"
    walk_at "go"
    walk_at "nx"
    rw [eqD_lists (ns := alone cs) (ms := []) (by rw [seqL_ref, getT0]; rfl) rfl]
    by_cases he : alone cs = []
    · rw [decide_eq_true he]
      walk_at "vc"
      exact fin g1 (by simp) (s_me' a0 (by omega))
    · rw [decide_eq_false he]
      walk_at "vc"
      walk_at "go"
      walk_at "vc"
      have hl : 0 < (alone cs).length := List.length_pos_iff.mpr he
      have hln : bltD .len [.ref S1.length] (S1 ++ [.lst ((alone cs).map .int)]) = some (.int ((alone cs).length : Nat)) := by
        rw [blt_lenA (d := .ref S1.length) (ds := (alone cs).map .int) (by rw [seqA_ref, getT0]; rfl) (fun x h => nomatch h), List.length_map]
      have hle : (alone cs).length ≤ cs.length := by
        have := List.length_filter_le (fun r => decide (ati cs r = 1)) (iota cs.length)
        rw [iota_len] at this; exact this
      rw [hln]
      walk_at "vc"
      refine digitT_wp st1 (by omega) (by omega) (by omega) fun b S2 g2 l2 st2 b0 b1 => ?_
      rw [← l2]
      have hi : idxD (.ref S2.length) (.int b) (S2 ++ [.lst ((alone cs).map .int)]) = some (.int (ati (alone cs) b)) := cell_ref (by rw [getT0]; rfl) b0 b1
      walk_at "vc"
      rw [hi]
      walk_at "vc"
      obtain ⟨m0, m1, m2⟩ := alone_mem (ati_mem b0 b1)
      exact fin (g1.trans g2) (by simp) (s_only' a0 (by omega) m0 m1 m2)
  · -- pick
    walk_at "if0"
    walk_at "if0"
    walk_at "nx"
    walk_at "sq"
    walk_at "vc"
    rw [len_tupI]
    walk_at "vc"
    refine digit_wp st1 (by omega) (by omega) (by omega) fun b Sb gb stb b0 b1 => ?_
    walk_at "vc"
    exact fin0 (g1.trans gb) (by simp) (s_pick' a0 (by omega) b0 (by omega))
  · -- alike
    walk_at "if0"
    walk_at "if0"
    walk_at "if0"
    walk_at "nx"
    walk_at "sq"
    walk_at "vc"
    refine digit_wp st1 (by omega) (by omega) (by omega) fun b Sb gb stb b0 b1 => ?_
    walk_at "vc"
    refine digit_wp stb (by omega) (by omega) (by omega) fun c Sc gc stc c0 c1 => ?_
    walk_at "vc"
    exact fin0 ((g1.trans gb).trans gc) (by simp) (s_alike' a0 (by omega) b0 (by omega) c0 (by omega))
  · -- all
    walk_at "if0"
    walk_at "if0"
    walk_at "if0"
    walk_at "if0"
    walk_at "nx"
    refine digit_wp st1 (by omega) (by omega) (by omega) fun b Sb gb stb b0 b1 => ?_
    walk_at "vc"
    walk_at "go"
    walk_at "nx"
    walk_at "sq"
    walk_at "vc"
    rw [len_tupI]
    walk_at "vc"
    refine digit_wp stb (by omega) (by omega) (by omega) fun c Sc gc stc c0 c1 => ?_
    walk_at "vc"
    exact fin0 ((g1.trans gb).trans gc) (by simp) (s_all' b0 (by omega) c0 (by omega))
  · -- empty
    walk_at "if0"
    walk_at "if0"
    walk_at "if0"
    walk_at "if0"
    walk_at "nx"
    refine digit_wp st1 (by omega) (by omega) (by omega) fun b Sb gb stb b0 b1 => ?_
    walk_at "vc"
    walk_at "go"
    walk_at "if0"
    walk_at "nx"
    walk_at "sq"
    walk_at "vc"
    exact fin0 (g1.trans gb) (by simp) (s_empty' b0 (by omega))
  · -- join
    walk_at "if0"
    walk_at "if0"
    walk_at "if0"
    walk_at "if0"
    walk_at "nx"
    refine digit_wp st1 (by omega) (by omega) (by omega) fun b Sb gb stb b0 b1 => ?_
    walk_at "vc"
    walk_at "go"
    walk_at "if0"
    walk_at "if0"
    walk_at "nx"
    walk_at "sq"
    walk_at "vc"
    exact fin0 (g1.trans gb) (by simp) (s_join' b0 (by omega) a0 (by omega))
  · -- out
    walk_at "if0"
    walk_at "if0"
    walk_at "if0"
    walk_at "if0"
    walk_at "nx"
    refine digit_wp st1 (by omega) (by omega) (by omega) fun b Sb gb stb b0 b1 => ?_
    walk_at "vc"
    walk_at "go"
    walk_at "if0"
    walk_at "if0"
    walk_at "if0"
    walk_at "nx"
    walk_at "sq"
    walk_at "vc"
    refine digit_wp stb (by omega) (by omega) (by omega) fun c Sc gc stc c0 c1 => ?_
    walk_at "vc"
    exact fin0 ((g1.trans gb).trans gc) (by simp) (s_out' a0 (by omega) b0 (by omega) c0 (by omega))
  · -- many
    walk_at "if0"
    walk_at "if0"
    walk_at "if0"
    walk_at "if0"
    walk_at "nx"
    refine digit_wp st1 (by omega) (by omega) (by omega) fun b Sb gb stb b0 b1 => ?_
    walk_at "vc"
    walk_at "go"
    walk_at "if0"
    walk_at "if0"
    walk_at "if0"
    walk_at "if0"
    walk_at "vc"
    refine digit_wp stb (by omega) (by omega) (by omega) fun c Sc gc stc c0 c1 => ?_
    walk_at "vc"
    refine digit_wp stc (by omega) (by omega) (by omega) fun d Sd gd std d0 d1 => ?_
    walk_at "vc"
    exact fin0 (((g1.trans gb).trans gc).trans gd) (by simp) (s_many' b0 (by omega) c0 (by omega) d0 (by omega))
end Ev.K17
namespace Ev.K17
open PySem PySem.Spec PyProof.Rows L2 Ev
def w11 : List Str := ["put", "copy", "raise", "sum", "choose", "less", "before", "go", "bell", "send", "take"]
def w9 : List Str := ["me", "only", "pick", "alike", "all", "empty", "join", "out", "many"]
theorem in_strs {i : Str} {d : D} {ns : List Str} {S : Store} (h : seqA S d = some (ns.map D.str)) : inD false (.str i) d S = some (.bl (decide (i ∈ ns))) := by
  have hf : ∀ ns : List Str, (ns.map D.str).mapM flatD = some (ns.map V.str) := fun ns => by
    induction ns with
    | nil => rfl
    | cons n ns ih => rw [List.map_cons, List.mapM_cons, ih]; rfl
  have hi : ∀ ns : List Str, inV (.str i) (ns.map V.str) = decide (i ∈ ns) := fun ns => by
    unfold inV
    induction ns with
    | nil => simp
    | cons n ns ih =>
      rw [List.map_cons, List.any_cons, ih]
      show ((n == i) || _) = _
      by_cases h : n = i
      · simp [h]
      · have h' : ¬ i = n := fun e => h e.symm
        simp [h, h']
  unfold inD
  cases d <;> first
    | (simp only [flatD, h, hf, hi]; rfl)
    | cases h
theorem numberT_wp {S T : Store} {k n : Nat} {Q : D → Store → Prop} {E : XP} (h : Stt k n S) (hn : n < 2 ^ 50) (q : ∀ (i : Int) (S' : Store), Di k S S' → S'.length = S.length → Stt k (n + 2) S' → Q (.int i) (S' ++ T)) : (f__law_number [.ref k] (S ++ T)).wp Q E := by
  refine number_wp h.app hn fun i U g st => ?_
  obtain ⟨S', rfl, g'⟩ := Di.app_inv h.lt g
  exact q i S' g' g'.len (st.cut (by rw [g'.len]; exact h.lt))
theorem linesT_gen {S T : Store} {k n : Nat} {len : Int} {Q : D → Store → Prop} {E : XP} (h : Stt k n S) (hn : n < 2 ^ 50) (h0 : 0 ≤ len) (h1 : len < 1000)
    (q : ∀ (d : D) (S' : Store), Di k S S' → S'.length = S.length → linesB len d = true → (∃ ds, d = .tup ds ∧ ds.length ≤ 13) → d.pl true 2 = true → Q d (S' ++ T)) : (f__law_lines [.ref k, .int len] (S ++ T)).wp Q E := by
  refine lines_gen h.app hn h0 h1 fun d U g a b c => ?_
  obtain ⟨S', rfl, g'⟩ := Di.app_inv h.lt g
  exact q d S' g' g'.len a b c
theorem on_namesT_wp {w : Str} {S T : Store} {k n : Nat} {len : Int} {cs : List Int} {Q : D → Store → Prop} {E : XP} (hw : w ∈ w9) (h : Stt k n S) (hn : n < 2 ^ 50) (h0 : 0 ≤ len) (h1 : len < 1000) (hc0 : 0 < cs.length) (hc1 : cs.length ≤ 100)
    (q : ∀ (d : D) (S' : Store), Di k S S' → S'.length = S.length → Stp len cs d → Q d (S' ++ T)) : (f__law_on_names [.ref k, .str w, .int len, .tup (cs.map .int)] (S ++ T)).wp Q E := by
  refine on_names_wp hw h.app hn h0 h1 hc0 hc1 fun d U g hs => ?_
  obtain ⟨S', rfl, g'⟩ := Di.app_inv h.lt g
  exact q d S' g' g'.len hs
set_option maxHeartbeats 8000000 in
theorem step_body {S : Store} {k n : Nat} {len : Int} {cs : List Int} {N : Env' → Store → Prop} {R : D → Store → Prop} {B C : Env' → Store → Prop} {X : XP} (h : Stt k n S) (hn : n < 2 ^ 40) (h0 : 0 ≤ len) (h1 : len < 1000) (hc0 : 0 < cs.length) (hc1 : cs.length ≤ 100)
    (q : ∀ (d : D) (S' T : Store), Di k S S' → Stp len cs d → R d (S' ++ T)) : (m__law_step [some (.ref k), some (.int len), some (.tup (cs.map .int)), none, none, none] S).wp N R B C X := by
  unfold m__law_step
  walk_at "st"
  walk_at "nx"
  rw [bin_cat (xs := w11.map .str) (ys := w9.map .str) (by rw [seqW_ref, getT0]; rfl) rfl (sz_le (by decide))]
  walk_at "vc"
  walk_at "go"
  walk_at "nx"
  refine digitT_wp h (by omega) (by omega) (by decide) fun b S1 g1 l1 st1 b0 b1 => ?_
  rw [← l1]
  have hb : b.toNat < (w11 ++ w9).length := by show b.toNat < 20; omega
  have hwm : (w11 ++ w9)[b.toNat]? = some (w11 ++ w9)[b.toNat] := List.getElem?_eq_getElem hb
  have hmem : (w11 ++ w9)[b.toNat] ∈ w11 ++ w9 := List.getElem_mem hb
  generalize (w11 ++ w9)[b.toNat] = w at hwm hmem
  generalize hT : ([Cell.lst [.str "put", .str "copy", .str "raise", .str "sum", .str "choose", .str "less", .str "before", .str "go", .str "bell", .str "send", .str "take"], Cell.lst (w11.map D.str ++ w9.map D.str)] : Store) = T
  have hT1 : T[1]? = some (.lst ((w11 ++ w9).map D.str)) := by rw [← hT, List.map_append]; rfl
  have hidx : idxD (.ref (S1.length + 1)) (.int b) (S1 ++ T) = some (.str w) := by
    rw [idx_ref (by rw [getT]; exact hT1)]
    exact atI_nat b0 (by rw [List.getElem?_map, hwm]; rfl)
  walk_at "vc"
  rw [hidx]
  walk_at "vc"
  walk_at "go"
  have hcut : cutD (.ref (S1.length + 1)) (some 11) none (S1 ++ T) = some (.lst (w9.map .str)) := by
    rw [cut_lst (ds := (w11 ++ w9).map .str) (by rw [seqL_ref, getT, hT1])]
    rw [show (some (11 : Int)) = some ((11 : Nat) : Int) from rfl, cutL_from (by decide)]
    rfl
  have hin : ∀ w : Str, inD false (.str w) (.lst (w9.map .str)) (S1 ++ T) = some (.bl (decide (w ∈ w9))) := fun w => in_strs rfl
  have fin : ∀ {d : D} {S' : Store}, Di k S S' → Stp len cs d → R d (S' ++ T) := fun g hs => q _ _ T g hs
  clear hidx hT hwm hb
  walk_at "nx"
  rw [hcut]
  walk_at "vc"
  rw [hin]
  walk_at "vc"
  rcases List.mem_append.mp hmem with hm | hm
  · have hno : decide (w ∈ w9) = false := (show ∀ w ∈ w11, decide (w ∈ w9) = false by decide +kernel) w hm
    rw [hno]
    walk_at "vc"
    walk_at "go"
    unfold w11 at hm
    simp only [List.mem_cons, List.not_mem_nil, or_false] at hm
    rcases hm with rfl | rfl | rfl | rfl | rfl | rfl | rfl | rfl | rfl | rfl | rfl
    · -- put
      walk_at "if0"
      walk_at "if0"
      walk_at "nx"
      refine digitT_wp st1 (by omega) (by omega) (by omega) fun a Sa ga la sta a0 a1 => ?_
      try rw [← la]
      walk_at "vc"
      walk_at "go"
      walk_at "nx"
      walk_at "sq"
      walk_at "vc"
      refine numberT_wp sta (by omega) fun i Si gi li sti => ?_
      try rw [← li]
      walk_at "vc"
      exact fin ((g1.trans ga).trans gi) (s_put' a0 (by omega))
    · -- copy
      walk_at "if0"
      walk_at "if0"
      walk_at "nx"
      refine digitT_wp st1 (by omega) (by omega) (by omega) fun a Sa ga la sta a0 a1 => ?_
      try rw [← la]
      walk_at "vc"
      walk_at "go"
      walk_at "nx"
      walk_at "sq"
      walk_at "vc"
      walk_at "sq"
      walk_at "vc"
      walk_at "go"
      walk_at "nx"
      walk_at "sq"
      walk_at "vc"
      refine digitT_wp sta (by omega) (by omega) (by omega) fun c Sc gc lc stc c0 c1 => ?_
      try rw [← lc]
      walk_at "vc"
      exact fin ((g1.trans ga).trans gc) (s_copy' a0 (by omega) c0 (by omega))
    · -- raise
      walk_at "if0"
      walk_at "if0"
      walk_at "nx"
      refine digitT_wp st1 (by omega) (by omega) (by omega) fun a Sa ga la sta a0 a1 => ?_
      try rw [← la]
      walk_at "vc"
      walk_at "go"
      walk_at "nx"
      walk_at "sq"
      walk_at "vc"
      walk_at "sq"
      walk_at "vc"
      refine numberT_wp sta (by omega) fun i Si gi li sti => ?_
      try rw [← li]
      walk_at "vc"
      exact fin ((g1.trans ga).trans gi) (s_raise' a0 (by omega))
    · -- sum
      walk_at "if0"
      walk_at "if0"
      walk_at "nx"
      refine digitT_wp st1 (by omega) (by omega) (by omega) fun a Sa ga la sta a0 a1 => ?_
      try rw [← la]
      walk_at "vc"
      walk_at "go"
      walk_at "nx"
      walk_at "sq"
      walk_at "vc"
      walk_at "sq"
      walk_at "vc"
      walk_at "go"
      walk_at "nx"
      walk_at "sq"
      walk_at "vc"
      walk_at "sq"
      walk_at "vc"
      refine digitT_wp sta (by omega) (by omega) (by omega) fun c Sc gc lc stc c0 c1 => ?_
      try rw [← lc]
      walk_at "vc"
      exact fin ((g1.trans ga).trans gc) (s_sum' a0 (by omega) c0 (by omega))
    · -- choose
      walk_at "if0"
      walk_at "if0"
      walk_at "nx"
      refine digitT_wp st1 (by omega) (by omega) (by omega) fun a Sa ga la sta a0 a1 => ?_
      try rw [← la]
      walk_at "vc"
      walk_at "go"
      walk_at "nx"
      walk_at "sq"
      walk_at "vc"
      walk_at "sq"
      walk_at "vc"
      walk_at "go"
      walk_at "nx"
      walk_at "sq"
      walk_at "vc"
      walk_at "sq"
      walk_at "vc"
      walk_at "go"
      walk_at "nx"
      walk_at "sq"
      walk_at "vc"
      refine digitT_wp sta (by omega) (by omega) (by omega) fun c Sc gc lc stc c0 c1 => ?_
      try rw [← lc]
      walk_at "vc"
      exact fin ((g1.trans ga).trans gc) (s_choose' a0 (by omega) (by omega) (by omega))
    · -- less
      walk_at "if0"
      walk_at "if0"
      walk_at "nx"
      refine digitT_wp st1 (by omega) (by omega) (by omega) fun a Sa ga la sta a0 a1 => ?_
      try rw [← la]
      walk_at "vc"
      walk_at "go"
      walk_at "nx"
      walk_at "sq"
      walk_at "vc"
      walk_at "sq"
      walk_at "vc"
      walk_at "go"
      walk_at "nx"
      walk_at "sq"
      walk_at "vc"
      walk_at "sq"
      walk_at "vc"
      walk_at "go"
      walk_at "if0"
      walk_at "nx"
      walk_at "sq"
      walk_at "vc"
      refine numberT_wp sta (by omega) fun i Si gi li sti => ?_
      try rw [← li]
      walk_at "vc"
      refine digitT_wp sti (by omega) (by omega) (by omega) fun c Sc gc lc stc c0 c1 => ?_
      try rw [← lc]
      walk_at "vc"
      exact fin (((g1.trans ga).trans gi).trans gc) (s_less' a0 (by omega) c0 (by omega))
    · -- before
      walk_at "if0"
      walk_at "if0"
      walk_at "nx"
      refine digitT_wp st1 (by omega) (by omega) (by omega) fun a Sa ga la sta a0 a1 => ?_
      try rw [← la]
      walk_at "vc"
      walk_at "go"
      walk_at "nx"
      walk_at "sq"
      walk_at "vc"
      walk_at "sq"
      walk_at "vc"
      walk_at "go"
      walk_at "nx"
      walk_at "sq"
      walk_at "vc"
      walk_at "sq"
      walk_at "vc"
      walk_at "go"
      walk_at "if0"
      walk_at "if0"
      walk_at "nx"
      walk_at "sq"
      walk_at "vc"
      refine digitT_wp sta (by omega) (by omega) (by omega) fun c Sc gc lc stc c0 c1 => ?_
      try rw [← lc]
      walk_at "vc"
      refine digitT_wp stc (by omega) (by omega) (by omega) fun d Sd gd ld std d0 d1 => ?_
      try rw [← ld]
      walk_at "vc"
      exact fin (((g1.trans ga).trans gc).trans gd) (s_before' a0 (by omega) c0 (by omega) d0 (by omega))
    · -- go
      walk_at "if0"
      walk_at "nx"
      walk_at "sq"
      walk_at "vc"
      refine digitT_wp st1 (by omega) (by omega) (by omega) fun c Sc gc lc stc c0 c1 => ?_
      try rw [← lc]
      walk_at "vc"
      exact fin (g1.trans gc) (s_go' c0 (by omega))
    · -- bell
      walk_at "nx"
      walk_at "sq"
      walk_at "vc"
      exact fin g1 s_bell'
    · -- send
      walk_at "if0"
      walk_at "if0"
      walk_at "nx"
      refine digitT_wp st1 (by omega) (by omega) (by omega) fun a Sa ga la sta a0 a1 => ?_
      try rw [← la]
      walk_at "vc"
      walk_at "go"
      walk_at "nx"
      walk_at "sq"
      walk_at "vc"
      walk_at "sq"
      walk_at "vc"
      walk_at "go"
      walk_at "nx"
      walk_at "sq"
      walk_at "vc"
      walk_at "sq"
      walk_at "vc"
      walk_at "go"
      walk_at "if0"
      walk_at "if0"
      walk_at "if0"
      walk_at "nx"
      walk_at "sq"
      walk_at "vc"
      refine digitT_wp sta (by omega) (by omega) (by omega) fun c Sc gc lc stc c0 c1 => ?_
      try rw [← lc]
      walk_at "vc"
      refine digitT_wp stc (by omega) (by omega) (by omega) fun d Sd gd ld std d0 d1 => ?_
      try rw [← ld]
      walk_at "vc"
      refine digitT_wp std (by omega) (by omega) (by omega) fun e Se ge le ste e0 e1 => ?_
      try rw [← le]
      walk_at "vc"
      exact fin ((((g1.trans ga).trans gc).trans gd).trans ge) (s_send' a0 (by omega) (by omega) (by omega) d0 (by omega) e0 (by omega))
    · -- take
      walk_at "if0"
      walk_at "if0"
      walk_at "nx"
      refine digitT_wp st1 (by omega) (by omega) (by omega) fun a Sa ga la sta a0 a1 => ?_
      try rw [← la]
      walk_at "vc"
      walk_at "go"
      walk_at "nx"
      walk_at "sq"
      walk_at "vc"
      walk_at "sq"
      walk_at "vc"
      walk_at "go"
      walk_at "nx"
      walk_at "sq"
      walk_at "vc"
      walk_at "sq"
      walk_at "vc"
      walk_at "go"
      walk_at "if0"
      walk_at "if0"
      walk_at "if0"
      walk_at "if0"
      walk_at "vc"
      refine digitT_wp sta (by omega) (by omega) (by omega) fun c Sc gc lc stc c0 c1 => ?_
      try rw [← lc]
      walk_at "vc"
      have hc : c = 0 ∨ c = 1 := by omega
      have hm : ∃ z : Int, binD .Mult (.int c) (.int (a + 1)) (Sc ++ T) = some (.int z) ∧ -1 ≤ a - z ∧ a - z ≤ 2 := by
        refine ⟨c * (a + 1), mul_small (by omega) (by omega) (by omega) (by omega), ?_, ?_⟩ <;> (rcases hc with rfl | rfl <;> omega)
      obtain ⟨z, hz, z0, z1⟩ := hm
      rw [hz]
      walk_at "vc"
      refine linesT_gen stc (by omega) h0 h1 fun d Sd gd ld hld hds hpd => ?_
      try rw [← ld]
      have bxd : box d (Sd ++ T) = (d, Sd ++ T) := box_pl hpd
      walk_at "vc"
      rw [bxd]
      exact fin (((g1.trans ga).trans gc).trans gd) (s_take' z0 z1 hld hds hpd)
  · have hyes : decide (w ∈ w9) = true := decide_eq_true hm
    rw [hyes]
    walk_at "vc"
    refine on_namesT_wp hm st1 (by omega) h0 h1 hc0 hc1 fun d S2 g2 l2 hs => ?_
    walk_at "vc"
    exact fin (g1.trans g2) hs
end Ev.K17
namespace Ev.K17
open PySem PySem.Spec PyProof.Rows L2 Ev
theorem plL_weak {n : Nat} {ds : List D} (h : plL true n ds = true) : plL false n ds = true := plL_mem.mpr fun d hd => pl_weak n d (plL_mem.mp h d hd)
/-- step_of of what the law draws -/
theorem stepd_wp {len : Int} {cs : List Int} {d : D} {S : Store} {Q : D → Store → Prop} {E : XP} (hs : Stp len cs d) (q : ∀ c, c ∈ clsL.map (·.2) → Q (.obj c ["form"] [d]) S) : (f_step_of [d, .int len, .tup (cs.map .int)] S).wp Q E := by
  obtain ⟨w, c, sorts, args, rfl, h2, h3, h4, h5, h6, h7⟩ := hs.ex
  exact step_of_wp (n := 0) h2 h3 h4 (by decide) (plL_weak h6) (fun d hd ds e => by have := h7 d hd ds e; omega) (fun _ => q c (List.mem_map_of_mem h3)) (fun z => by rw [h5] at z; cases z)
theorem lineB_up {len : Int} {d : D} (h : lineB len d = true) : lineB (len + 1) d = true := by
  unfold lineB at h ⊢
  split at h
  · simp only [Bool.and_eq_true] at h ⊢
    obtain ⟨⟨⟨⟨⟨h1, h2⟩, h3⟩, h4⟩, h5⟩, h6⟩ := h
    refine ⟨⟨⟨⟨⟨h1, ?_⟩, h3⟩, h4⟩, h5⟩, h6⟩
    obtain ⟨i, rfl, a, b⟩ := from_int h2
    simp only [fromB]
    rw [decide_eq_true a, decide_eq_true (by omega : i ≤ len + 1)]; rfl
  · cases h
theorem linesB_up {len : Int} {d : D} (h : linesB len d = true) : linesB (len + 1) d = true := by
  unfold linesB at h ⊢
  split at h
  · cases h
  · rw [Bool.and_eq_true] at h ⊢
    refine ⟨List.all_eq_true.mpr fun x hx => lineB_up (List.all_eq_true.mp h.1 x hx), h.2⟩
  · cases h
theorem fitB_up {len : Int} {cs : List Int} {s : Str} {d : D} (hs : s ∈ sortsL) (h : fitB len cs s d = true) : fitB (len + 1) cs s d = true := by
  unfold sortsL at hs
  simp only [List.mem_cons, List.not_mem_nil, or_false] at hs
  rcases hs with rfl | rfl | rfl | rfl | rfl | rfl | rfl | rfl | rfl | rfl | rfl
  · exact h
  · rw [fitB_at (f := linesB len) (by unfold fitTb; walk_at "ls")] at h
    rw [fitB_at (f := linesB (len + 1)) (by unfold fitTb; walk_at "ls")]
    exact linesB_up h
  · exact h
  · exact h
  · exact h
  · rw [fitB_at (f := fromB 0 len) (by unfold fitTb; walk_at "ls")] at h
    rw [fitB_at (f := fromB 0 (len + 1)) (by unfold fitTb; walk_at "ls")]
    obtain ⟨i, rfl, a, b⟩ := from_int h
    simp only [fromB]
    rw [decide_eq_true a, decide_eq_true (by omega : i ≤ len + 1)]; rfl
  all_goals exact h
theorem stp_up {len : Int} {cs : List Int} {d : D} (h : Stp len cs d) : Stp (len + 1) cs d := by
  obtain ⟨w, c, sorts, args, rfl, h2, h3, h4, h5, h6, h7⟩ := h.ex
  refine ⟨w, c, sorts, args, rfl, h2, h3, h4, okA_take.mpr fun i s d hs hd => fitB_up ((form_sorts _ h2).1 s (List.mem_of_getElem? hs)) (okA_take.mp h5 i s d hs hd), h6, h7⟩
theorem stp_tup {len : Int} {cs : List Int} {d : D} (h : Stp len cs d) : ∃ w args, d = .tup (.str w :: args) ∧ d.pl true 3 = true ∧ PyData.strOk w = true := by
  obtain ⟨w, c, sorts, args, rfl, h2, h3, h4, h5, h6, h7⟩ := h.ex
  have hs : PyData.strOk w = true := (show ∀ p ∈ formL, PyData.strOk p.1 = true by decide +kernel) _ h2
  exact ⟨w, args, rfl, by rw [pl_tup, pl_cons, h6]; unfold D.pl; rw [hs]; rfl, hs⟩
theorem form_only : ∀ p ∈ formL, p.1 = ("only" : Str) → p.2 = (["box", "single"] : List Str) := by decide +kernel
/-- only, of a role with one hand -/
theorem stp_only {len : Int} {cs : List Int} {args : List D} (h : Stp len cs (.tup (.str "only" :: args))) : ∃ i r : Int, args = [.int i, .int r] ∧ 0 ≤ r ∧ r < cs.length := by
  obtain ⟨w, c, sorts, args', e, h2, h3, h4, h5, h6, h7⟩ := h.ex
  cases e
  have e2 := form_only _ h2 rfl
  have e2 : sorts = (["box", "single"] : List Str) := e2
  subst e2
  match args, h4 with
  | [a, b], _ =>
    have f1 := okA_take.mp h5 0 _ _ rfl rfl
    have f2 := okA_take.mp h5 1 _ _ rfl rfl
    rw [fitB_at (f := fromB 0 2) (by unfold fitTb; walk_at "ls")] at f1
    rw [fitB_at (f := oneB cs) (by unfold fitTb; walk_at "ls")] at f2
    obtain ⟨i, rfl, _⟩ := from_int f1
    cases b with
    | int r =>
      simp only [oneB, Bool.and_eq_true, decide_eq_true_eq] at f2
      exact ⟨i, r, rfl, f2.1.1, by omega⟩
    | _ => cases f2
end Ev.K17
namespace Ev.K17
open PySem PySem.Spec PyProof.Rows L2 Ev
theorem step_wp {S : Store} {z : Int} {len : Int} {cs : List Int} {Q : D → Store → Prop} {E : XP} (h0 : 0 ≤ len) (h1 : len < 1000) (hc0 : 0 < cs.length) (hc1 : cs.length ≤ 100)
    (q : ∀ d : D, Stp len cs d → Q d S) : (f__law_step [.lst [.int z], .int len, .tup (cs.map .int)] S).wp Q E := by
  refine run_wp ?_
  walk_at "vc"
  have st : Stt S.length 0 (S ++ [.lst [.int z]]) := ⟨[z], by rw [getT0]; rfl, .inl ⟨z, rfl⟩⟩
  refine step_body st (by decide) h0 h1 hc0 hc1 fun d S' T g hs => ?_
  have hS' : ∃ c', S' = S ++ [c'] := by
    rcases g with rfl | ⟨ns, rfl⟩
    · exact ⟨_, rfl⟩
    · exact ⟨_, setT0⟩
  obtain ⟨c', rfl⟩ := hS'
  rw [List.append_assoc]
  obtain ⟨w, c, sorts, args, e, h2, h3, h4, h5, h6, h7⟩ := hs.ex
  refine closeR_app ?_ (q d hs)
  rw [e, lo_tup, loL_cons, lo_str, pl_loL args 2 _ h6]; rfl
end Ev.K17
namespace Ev.K17
open PySem PySem.Spec PyProof.Rows L2 Ev
/-! ### programs as data -/
def progD (room l1 l2 : Int) (roles : List (List D)) (hs : List Int) : D := .tup [.int room, .tup [.int l1, .int l2], .tup (roles.map .tup), .tup (hs.map .int)]
/-- the hands of a role -/
def hix (hs : List Int) (r : Int) : List Int := (iota hs.length).filter fun k => decide (ati hs k = r)
theorem hix_len {hs : List Int} {r : Int} : (hix hs r).length = hs.count r := by
  unfold hix
  rw [← List.countP_eq_length_filter]
  conv => rhs; rw [← map_ati_iota (q := hs) (n := hs.length) rfl]
  rw [List.count, List.countP_map]
  refine List.countP_congr fun k _ => ?_
  simp
def cntI (hs : List Int) (n : Nat) : List Int := (iota n).map fun r => (hs.count r : Nat)
theorem cnt_len {hs : List Int} {n : Nat} : (cntI hs n).length = n := by unfold cntI; rw [List.length_map, iota_len]
theorem enum_at {ns : List Int} {i : Nat} {d : D} (h : (enumL 0 (ns.map D.int))[i]? = some d) : i < ns.length ∧ d = .tup [.int (i : Nat), .int (ati ns i)] := by
  rw [enumL_at] at h
  have hi : i < ns.length := by
    cases q : (ns.map D.int)[i]? with
    | none => rw [q] at h; cases h
    | some x => have := (List.getElem?_eq_some_iff.mp q).1; simpa using this
  rw [List.getElem?_map, show ns[i]? = some (ati ns (i : Int)) from by have := ati_some (ns := ns) (i := (i : Int)) (by omega) (by omega); simpa using this] at h
  cases h
  exact ⟨hi, by rw [Nat.zero_add]⟩
theorem iota_at {n i : Nat} (h : i < n) : (iota n)[i]? = some (i : Int) := by
  unfold iota
  rw [List.getElem?_map, List.getElem?_range h]; rfl
theorem hands_of_wp {a b c : D} {hs : List Int} {r : Int} {S : Store} {Q : D → Store → Prop} {E : XP} (hz : hs.length ≤ 1000) (q : Q (.tup ((hix hs r).map .int)) S) : (f_hands_of [.tup [a, b, c, .tup (hs.map .int)], .int r] S).wp Q E := by
  refine run_wp ?_
  walk_at "vc"
  unfold m_hands_of
  walk_at "vc"
  unfold q_hands_of_1
  walk_at "vc"
  have hl : (enumL 0 (hs.map D.int)).length ≤ sizeLine := by
    have : ∀ (k : Nat) (ds : List D), (enumL k ds).length = ds.length := by
      intro k ds
      induction ds generalizing k with
      | nil => rfl
      | cons d ds ih => unfold enumL; simp [ih]
    rw [this, List.length_map]; exact sz_le (by omega)
  have hl2 : (enumL 0 (hs.map D.int)).length = hs.length := by
    have : ∀ (k : Nat) (ds : List D), (enumL k ds).length = ds.length := by
      intro k ds
      induction ds generalizing k with
      | nil => rfl
      | cons d ds ih => unfold enumL; simp [ih]
    rw [this, List.length_map]
  rw [if_pos hl]
  walk_at "vc"
  refine comp_wp (fun i es S' => S = S' ∧ es = (((iota hs.length).take i).filter fun k => decide (ati hs k = r)).map .int) ⟨rfl, rfl⟩ (fun _ _ _ _ => trivial) ?_ ?_
  · rintro i d es S' hi ⟨rfl, rfl⟩
    obtain ⟨hi2, rfl⟩ := enum_at hi
    refine ⟨_, rfl, ?_⟩
    have ht : (iota hs.length).take (i + 1) = (iota hs.length).take i ++ [(i : Int)] := by
      rw [List.take_add_one, iota_at hi2]; rfl
    walk_at "vc"
    rw [ht, List.filter_append]
    by_cases h : ati hs i = r
    · rw [decide_eq_true h]
      walk_at "vc"
      rw [List.filter_cons_of_pos (by simpa using h)]
      simp
    · rw [decide_eq_false h]
      walk_at "vc"
      rw [List.filter_cons_of_neg (by simpa using h)]
      simp
  · rintro es S' ⟨rfl, rfl⟩
    walk_at "vc"
    rw [blt_tupleA (d := .lst _) (ds := (hix hs r).map .int) (by rw [hl2, List.take_of_length_le (by rw [iota_len]; omega)]; rfl)]
    walk_at "vc"
    exact closeR_same q
theorem counts_of_wp {a b : D} {ro : List D} {hs : List Int} {S : Store} {Q : D → Store → Prop} {E : XP} (hz : hs.length ≤ 1000) (hr : ro.length ≤ 1000) (q : Q (.tup ((cntI hs ro.length).map .int)) S) : (f_counts_of [.tup [a, b, .tup ro, .tup (hs.map .int)]] S).wp Q E := by
  refine run_wp ?_
  walk_at "vc"
  unfold m_counts_of
  walk_at "vc"
  unfold q_counts_of_1
  walk_at "vc"
  rw [len_tup]
  walk_at "vc"
  rw [if_pos (show In62 ((ro.length : Nat) : Int) from ⟨by omega, by omega⟩)]
  walk_at "vc"
  have hrl : (rangeL 0 ((ro.length : Nat) : Int).toNat).length = ro.length := by rw [range_len, Int.toNat_natCast]
  rw [if_pos (show (rangeL 0 ((ro.length : Nat) : Int).toNat).length ≤ sizeLine by rw [hrl]; exact sz_le (by omega))]
  walk_at "vc"
  refine comp_wp (fun i es S' => S = S' ∧ es = (((iota ro.length).take i).map fun r => ((hs.count r : Nat) : Int)).map .int) ⟨rfl, rfl⟩ (fun _ _ _ _ => trivial) ?_ ?_
  · rintro i d es S' hi ⟨rfl, rfl⟩
    obtain ⟨rfl, hi2⟩ := range_at hi
    rw [Int.toNat_natCast] at hi2
    refine ⟨_, rfl, ?_⟩
    walk_at "vc"
    refine hands_of_wp hz ?_
    walk_at "vc"
    rw [len_tupI, hix_len]
    walk_at "vc"
    have ht : (iota ro.length).take (i + 1) = (iota ro.length).take i ++ [(i : Int)] := by
      rw [List.take_add_one, iota_at hi2]; rfl
    rw [ht]
    simp
  · rintro es S' ⟨rfl, rfl⟩
    walk_at "vc"
    rw [blt_tupleA (d := .lst _) (ds := (cntI hs ro.length).map .int) (by rw [hrl, List.take_of_length_le (by rw [iota_len]; omega)]; rfl)]
    walk_at "vc"
    exact closeR_same q
theorem tuple_of_wp {ds : List D} {lo hi : Int} {S : Store} {Q : D → Store → Prop} {E : XP} (q : Q (.bl (decide (lo ≤ (ds.length : Nat)) && decide (((ds.length : Nat) : Int) ≤ hi))) S) : (f_is_tuple_of [.tup ds, .int lo, .int hi] S).wp Q E := by
  refine run_wp ?_
  walk_at "vc"
  unfold m_is_tuple_of
  walk_at "vc"
  rw [len_tup]
  walk_at "vc"
  by_cases h : lo ≤ ((ds.length : Nat) : Int)
  · rw [decide_eq_true h] at q ⊢
    walk_at "vc"
    exact closeR_same q
  · rw [decide_eq_false h] at q ⊢
    walk_at "vc"
    exact closeR_same q
theorem rising_wp {hs : List Int} {S : Store} {Q : D → Store → Prop} {E : XP} (hz : hs.length ≤ 1000) (hs1 : hs.Pairwise (· ≤ ·)) (q : Q (.bl true) S) : (f_is_rising [.tup (hs.map .int)] S).wp Q E := by
  refine run_wp ?_
  walk_at "vc"
  unfold m_is_rising
  walk_at "vc"
  unfold q_is_rising_1
  walk_at "vc"
  rw [len_tupI]
  walk_at "vc"
  rw [if_pos (show In62 1 ∧ In62 ((hs.length : Nat) : Int) from ⟨⟨by omega, by omega⟩, ⟨by omega, by omega⟩⟩)]
  walk_at "vc"
  rw [if_pos (show (rangeL 1 (((hs.length : Nat) : Int) - 1).toNat).length ≤ sizeLine by rw [range_len]; exact sz_le (by omega))]
  walk_at "vc"
  refine comp_wp (fun i es S' => S = S' ∧ es = (List.range i).map fun x => .bl ((fun _ => true) x)) ⟨rfl, rfl⟩ (fun _ _ _ _ => trivial) ?_ ?_
  · rintro i d es S' hi ⟨rfl, rfl⟩
    obtain ⟨rfl, hi2⟩ := range_at hi
    refine ⟨_, rfl, ?_⟩
    walk_at "vc"
    rw [idxT_int (by omega) (by omega)]
    walk_at "vc"
    rw [idxT_int (by omega) (by omega)]
    walk_at "vc"
    have h1 : (i : Nat) < hs.length := by omega
    have h2 : i + 1 < hs.length := by omega
    have hle : ati hs (1 + (i : Int) - 1) ≤ ati hs (1 + (i : Int)) := by
      have e1 : ati hs (1 + (i : Int) - 1) = hs[i] := by
        unfold ati
        rw [show (1 + (i : Int) - 1).toNat = i by omega, List.getElem?_eq_getElem h1]; rfl
      have e2 : ati hs (1 + (i : Int)) = hs[i + 1] := by
        unfold ati
        rw [show (1 + (i : Int)).toNat = i + 1 by omega, List.getElem?_eq_getElem h2]; rfl
      rw [e1, e2]
      exact (List.pairwise_iff_getElem.mp hs1) i (i + 1) h1 h2 (by omega)
    rw [decide_eq_true hle]
    rw [List.range_succ]
    simp
  · rintro es S' ⟨rfl, rfl⟩
    walk_at "vc"
    rw [all_lst]
    walk_at "vc"
    have : ((List.range (rangeL 1 (((hs.length : Nat) : Int) - 1).toNat).length).map fun _ => true).all id = true := by
      rw [List.all_eq_true]
      intro x hx
      obtain ⟨_, _, rfl⟩ := List.mem_map.mp hx
      rfl
    rw [this]
    exact closeR_same q
end Ev.K17
namespace Ev.K17
open PySem PySem.Spec PyProof.Rows L2 Ev
/-- what holds of a good program's whole -/
structure Whole (room l1 l2 : Int) (roles : List (List D)) (hs : List Int) : Prop where
  r0 : 1 ≤ room
  r1 : room ≤ 10
  a0 : 0 ≤ l1
  a1 : l1 ≤ 5
  b0 : 0 ≤ l2
  b1 : l2 ≤ 5
  n0 : 1 ≤ roles.length
  n1 : roles.length ≤ 6
  st : ∀ s ∈ roles, s.length ≤ 60
  h0 : 1 ≤ hs.length
  h1 : hs.length ≤ 6
  hh : ∀ h ∈ hs, 0 ≤ h ∧ h < roles.length
  hr : hs.Pairwise (· ≤ ·)
theorem int_pl {nb : Bool} {i : Int} : (D.int i).pl nb 0 = true := by unfold D.pl; rfl
theorem from_yes {lo hi i : Int} (h0 : lo ≤ i) (h1 : i ≤ hi) : fromB lo hi (.int i) = true := by simp only [fromB]; rw [decide_eq_true h0, decide_eq_true h1]; rfl
theorem two_yes {a b : Prop} [Decidable a] [Decidable b] (h0 : a) (h1 : b) : (decide a && decide b) = true := by rw [decide_eq_true h0, decide_eq_true h1]; rfl
theorem all_true {α : Type} {f : α → Bool} {xs : List α} (h : ∀ x ∈ xs, f x = true) : (xs.map f).all id = true := by
  rw [List.all_eq_true]
  intro x hx
  obtain ⟨y, hy, rfl⟩ := List.mem_map.mp hx
  exact h y hy
set_option maxHeartbeats 4000000 in
theorem whole_prog_wp {room l1 l2 : Int} {roles : List (List D)} {hs : List Int} {S : Store} {Q : D → Store → Prop} {E : XP} (W : Whole room l1 l2 roles hs) (q : Q (.bl true) S) : (f_is_whole_program [progD room l1 l2 roles hs] S).wp Q E := by
  have n0 := W.n0
  have n1 := W.n1
  have h0 := W.h0
  have h1 := W.h1
  have lr : (roles.map D.tup).length = roles.length := List.length_map _
  have lh : (hs.map D.int).length = hs.length := List.length_map _
  unfold progD
  refine run_wp ?_
  walk_at "vc"
  unfold m_is_whole_program
  walk_at "nx"
  refine tuple_of_wp ?_
  rw [two_yes (by simp) (by simp)]
  walk_at "vc"
  walk_at "go"
  walk_at "st"
  walk_at "nx"
  refine from_wp int_pl ?_
  rw [from_yes W.r0 W.r1]
  walk_at "vc"
  refine tuple_of_wp ?_
  rw [two_yes (by simp) (by simp)]
  walk_at "vc"
  walk_at "go"
  walk_at "nx"
  unfold q_is_whole_program_1
  walk_at "vc"
  refine comp_wp (fun i es S' => S = S' ∧ es = ([l1, l2].take i).map fun z => .bl (fromB 0 5 (.int z))) ⟨rfl, rfl⟩ (fun _ _ _ _ => trivial) ?_ ?_
  · rintro i d es S' hi ⟨rfl, rfl⟩
    have hd : [l1, l2][i]?.map D.int = some d := by rw [← List.getElem?_map]; exact hi
    cases hz : [l1, l2][i]? with
    | none => rw [hz] at hd; cases hd
    | some z =>
      rw [hz] at hd
      cases hd
      refine ⟨_, rfl, ?_⟩
      walk_at "vc"
      refine from_wp int_pl ?_
      walk_at "vc"
      rw [List.take_add_one, hz]
      simp
  · rintro es S' ⟨rfl, rfl⟩
    walk_at "vc"
    rw [all_lst, all_true (fun z hz => by
      have := List.mem_of_mem_take hz
      simp only [List.mem_cons, List.not_mem_nil, or_false] at this
      rcases this with rfl | rfl
      · exact from_yes W.a0 W.a1
      · exact from_yes W.b0 W.b1)]
    walk_at "vc"
    walk_at "go"
    walk_at "nx"
    refine tuple_of_wp ?_
    rw [lr, two_yes (by omega) (by omega)]
    walk_at "vc"
    refine tuple_of_wp ?_
    rw [lh, two_yes (by omega) (by omega)]
    walk_at "vc"
    walk_at "go"
    walk_at "nx"
    unfold q_is_whole_program_2
    walk_at "vc"
    rw [if_pos (show (roles.map D.tup).length ≤ sizeLine from sz_le (by omega))]
    walk_at "vc"
    refine comp_wp (fun i es S' => S = S' ∧ es = (roles.take i).map fun s => .bl (decide ((0 : Int) ≤ (s.length : Nat)) && decide (((s.length : Nat) : Int) ≤ 60))) ⟨rfl, rfl⟩ (fun _ _ _ _ => trivial) ?_ ?_
    · rintro i d es S' hi ⟨rfl, rfl⟩
      rw [List.getElem?_map] at hi
      cases hz : roles[i]? with
      | none => rw [hz] at hi; cases hi
      | some s =>
        rw [hz] at hi
        cases hi
        refine ⟨_, rfl, ?_⟩
        walk_at "vc"
        refine tuple_of_wp ?_
        walk_at "vc"
        rw [List.take_add_one, hz]
        simp
    · rintro es S' ⟨rfl, rfl⟩
      walk_at "vc"
      rw [all_lst, all_true (fun s hs => two_yes (by omega) (by have := W.st s (List.mem_of_mem_take hs); omega))]
      walk_at "vc"
      walk_at "go"
      walk_at "vc"
      unfold q_is_whole_program_3
      walk_at "vc"
      rw [if_pos (show (hs.map D.int).length ≤ sizeLine from sz_le (by omega))]
      walk_at "vc"
      refine comp_wp (fun i es S' => S = S' ∧ es = (hs.take i).map fun z => .bl (fromB 0 ((roles.length : Int) - 1) (.int z))) ⟨rfl, rfl⟩ (fun _ _ _ _ => trivial) ?_ ?_
      · rintro i d es S' hi ⟨rfl, rfl⟩
        rw [List.getElem?_map] at hi
        cases hz : hs[i]? with
        | none => rw [hz] at hi; cases hi
        | some z =>
          rw [hz] at hi
          cases hi
          refine ⟨_, rfl, ?_⟩
          walk_at "vc"
          rw [len_tup, lr]
          walk_at "vc"
          refine from_wp int_pl ?_
          walk_at "vc"
          rw [List.take_add_one, hz]
          simp
      · rintro es S' ⟨rfl, rfl⟩
        walk_at "vc"
        rw [all_lst, all_true (fun z hz => by have := W.hh z (List.mem_of_mem_take hz); exact from_yes (by omega) (by omega))]
        walk_at "vc"
        refine rising_wp (by omega) W.hr ?_
        exact closeR_same q
end Ev.K17
namespace Ev.K17
open PySem PySem.Spec PyProof.Rows L2 Ev
/-- a good program -/
structure Prg (room l1 l2 : Int) (roles : List (List D)) (hs : List Int) : Prop where
  wh : Whole room l1 l2 roles hs
  ok : ∀ s ∈ roles, ∀ d ∈ s, Stp (s.length : Nat) (cntI hs roles.length) d
theorem enum_atD {ds : List D} {i : Nat} {d : D} (h : (enumL 0 ds)[i]? = some d) : ∃ x, ds[i]? = some x ∧ d = .tup [.int (i : Nat), x] := by
  rw [enumL_at] at h
  cases q : ds[i]? with
  | none => rw [q] at h; cases h
  | some x => rw [q] at h; cases h; exact ⟨x, rfl, by rw [Nat.zero_add]⟩
theorem look_over_wp {room l1 l2 : Int} {roles : List (List D)} {hs : List Int} {S : Store} {Q : D → Store → Prop} {E : XP} (P : Prg room l1 l2 roles hs) (q : Q .non S) : (f_look_over [progD room l1 l2 roles hs] S).wp Q E := by
  have n1 := P.wh.n1
  have h1 := P.wh.h1
  refine run_wp ?_
  have bx : ∀ S, box (progD room l1 l2 roles hs) S = (progD room l1 l2 roles hs, S) := fun _ => rfl
  walk_at "vc"
  rw [bx]
  walk_at "vc"
  unfold m_look_over
  walk_at "nx"
  refine whole_prog_wp P.wh ?_
  walk_at "vc"
  walk_at "go"
  walk_at "nx"
  have lr : (roles.map D.tup).length = roles.length := List.length_map _
  refine counts_of_wp (by omega) (by omega) ?_
  rw [lr]
  walk_at "vc"
  walk_at "go"
  unfold l_look_over_1
  have hx : idxD (progD room l1 l2 roles hs) (.int 2) S = some (.tup (roles.map .tup)) := idxT_2
  walk_at "vc"
  rw [hx]
  walk_at "vc"
  refine for_wp (fun _ ρ S' => S = S' ∧ ∃ x2 x3 x4 x5, ρ = [some (progD room l1 l2 roles hs), some (.tup ((cntI hs roles.length).map .int)), x2, x3, x4, x5]) ⟨rfl, _, _, _, _, rfl⟩ (fun _ _ _ _ => trivial) ?_ ?_
  · rintro i d ρ S' hi ⟨rfl, x2, x3, x4, x5, rfl⟩
    obtain ⟨x, hx, rfl⟩ := enum_atD hi
    rw [List.getElem?_map] at hx
    cases hz : roles[i]? with
    | none => rw [hz] at hx; cases hx
    | some s =>
      rw [hz] at hx
      cases hx
      have hsr := List.mem_of_getElem? hz
      refine ⟨_, rfl, ?_⟩
      unfold b_look_over_1 l_look_over_2
      walk_at "vc"
      refine for_wp (fun _ ρ S' => S = S' ∧ ∃ x4 x5, ρ = [some (progD room l1 l2 roles hs), some (.tup ((cntI hs roles.length).map .int)), some (.int (i : Nat)), some (.tup s), x4, x5]) ⟨rfl, _, _, rfl⟩ (fun _ _ _ _ => trivial) ?_ ?_
      · rintro j d ρ S' hj ⟨rfl, x4, x5, rfl⟩
        obtain ⟨d, hd, rfl⟩ := enum_atD hj
        refine ⟨_, rfl, ?_⟩
        unfold b_look_over_2
        refine try_expr ?_
        walk_at "vc"
        rw [len_tup]
        walk_at "vc"
        refine stepd_wp (P.ok s hsr d (List.mem_of_getElem? hd)) fun c hc => ?_
        exact ⟨rfl, _, _, rfl⟩
      · rintro ρ S' ⟨rfl, x4, x5, rfl⟩
        exact ⟨rfl, _, _, _, _, rfl⟩
  · rintro ρ S' ⟨rfl, x2, x3, x4, x5, rfl⟩
    rw [closeD_same]
    exact q
end Ev.K17
namespace Ev.K17
open PySem PySem.Spec PyProof.Rows L2 Ev
theorem sort_ints {ns : List Int} {S : Store} : bltD .sorted [.lst (ns.map .int)] S = some (.lst ((sortI ns).map .int)) := by
  show (match intsL S _ with | some ns => some (D.lst ((sortI ns).map .int)) | none => _) = _
  unfold intsL
  rw [seqL_lst]
  dsimp only
  rw [intsD_map]
theorem hands_wp {S : Store} {k n : Nat} {am : Int} {Q : D → Store → Prop} {E : XP} (h : Stt k n S) (hn : n < 2 ^ 40) (a0 : 1 ≤ am) (a1 : am ≤ 6)
    (q : ∀ (hs : List Int) (S' : Store), Di k S S' → Stt k (n + 20) S' → 1 ≤ hs.length → hs.length ≤ 6 → (∀ z ∈ hs, 0 ≤ z ∧ z < am) → hs.Pairwise (· ≤ ·) → Q (.tup (hs.map .int)) S') : (f__law_hands [.ref k, .int am] S).wp Q E := by
  refine run_wp ?_
  walk_at "vc"
  unfold m__law_hands
  walk_at "vc"
  unfold q__law_hands_1
  walk_at "vc"
  refine digit_wp h (by omega) (by omega) (by decide) fun b S2 g2 st2 b0 b1 => ?_
  walk_at "vc"
  rw [if_pos (show In62 (1 + b) from ⟨by omega, by omega⟩)]
  walk_at "vc"
  have hlen : (rangeL 0 (1 + b).toNat).length ≤ 6 ∧ 1 ≤ (rangeL 0 (1 + b).toNat).length := by rw [range_len]; omega
  rw [if_pos (show (rangeL 0 (1 + b).toNat).length ≤ sizeLine from sz_le (by omega))]
  walk_at "vc"
  refine comp_wp (fun i es S' => i ≤ 6 ∧ ∃ hs : List Int, es = hs.map .int ∧ hs.length = i ∧ (∀ z ∈ hs, 0 ≤ z ∧ z < am) ∧ Di k S S' ∧ Stt k (n + 1 + i) S') ⟨by omega, [], rfl, rfl, (fun z hz => nomatch hz), g2, st2⟩ (fun _ _ _ _ => trivial) ?_ ?_
  · rintro i d es S' hi ⟨hi10, hs, rfl, hl, hb, g, st⟩
    refine ⟨_, rfl, ?_⟩
    walk_at "vc"
    refine digit_wp st (by omega) (by omega) (by omega) fun c S3 g3 st3 c0 c1 => ?_
    have : i < 6 := by have := (List.getElem?_eq_some_iff.mp hi).1; omega
    refine ⟨by omega, hs ++ [c], by simp [box_int], by simp [hl], fun z hz => ?_, g.trans g3, st3⟩
    rcases List.mem_append.mp hz with y | y
    · exact hb z y
    · simp only [List.mem_cons, List.not_mem_nil, or_false] at y
      subst y
      exact ⟨c0, c1⟩
  · rintro es S' ⟨hi10, hs, rfl, hl, hb, g, st⟩
    walk_at "vc"
    rw [sort_ints]
    walk_at "vc"
    have hp := sortI_perm hs
    have hl2 := hp.length_eq
    refine closeR_di0 g (by rw [lo_tup]; exact lo_ints) (q (sortI hs) S' g (st.mono (by omega)) (by omega) (by omega) (fun z hz => hb z (hp.mem_iff.mp hz)) (sortI_pairwise hs))
end Ev.K17
namespace Ev.K17
open PySem PySem.Spec PyProof.Rows L2 Ev
theorem filt_count {hs : List Int} {r : Int} : (hs.filter fun z => decide (z = r)).length = hs.count r := by
  rw [List.count, List.countP_eq_length_filter]
  refine congrArg List.length (List.filter_congr fun z _ => ?_)
  by_cases h : z = r <;> simp [h]
theorem cut_len {α : Type} {xs : List α} : (cutL xs (some 1) (some 61)).length ≤ 60 ∧ (cutL xs (some 1) (some 61)).length + 1 ≤ max 1 xs.length := by
  unfold cutL
  rw [List.length_take, List.length_drop]
  have h1 : HT.sIx xs.length 0 (some 1) = min 1 xs.length := by
    unfold HT.sIx; simp <;> omega
  have h2 : HT.sIx xs.length xs.length (some 61) = min 61 xs.length := by
    unfold HT.sIx; simp <;> omega
  rw [h1, h2]
  omega
theorem stp_pl {len : Int} {cs : List Int} {d : D} (h : Stp len cs d) : d.pl true 3 = true := by
  obtain ⟨w, args, _, h2, _⟩ := stp_tup h
  exact h2
theorem count_take {os : List Int} {r : Int} {i : Nat} (h : i < os.length) : (os.take (i + 1)).count r = (os.take i).count r + (if os[i] = r then 1 else 0) := by
  rw [List.take_add_one, List.getElem?_eq_getElem h, List.count_append]
  simp [List.count_cons]
set_option maxHeartbeats 8000000 in
theorem prog_wp {ns : List Int} {Q : D → Store → Prop} {E : XP}
    (q : ∀ (room l1 l2 : Int) (roles : List (List D)) (hs : List Int), Prg room l1 l2 roles hs → Q (progD room l1 l2 roles hs) []) : (f__law_program [.fro (ns.map .int)] []).wp Q E := by
  refine run_wp ?_
  have c0 : ∀ S, f__law_cell_at [.fro (ns.map D.int), .int 0] S = .ok (.int (ns[0]?.getD 0)) S := fun S => cell_at_eq (k := 0)
  walk_at "vc"
  unfold m__law_program
  walk_at "vc"
  walk_at "st*"
  walk_at "nx"
  refine digit_wp (S := [_]) (n := 0) ⟨[ns[0]?.getD 0], rfl, .inl ⟨_, rfl⟩⟩ (by omega) (by omega) (by decide) fun am S1 g1 st d0 d1 => ?_
  walk_at "vc"
  walk_at "go"
  walk_at "nx"
  refine digit_wp st (by omega) (by omega) (by decide) fun ro S2 g2 st ro0 ro1 => ?_
  walk_at "vc"
  walk_at "go"
  walk_at "nx"
  refine digit_wp st (by omega) (by omega) (by decide) fun la S3 g3 st la0 la1 => ?_
  walk_at "vc"
  refine digit_wp st (by omega) (by omega) (by decide) fun lb S4 g4 st lb0 lb1 => ?_
  walk_at "vc"
  walk_at "go"
  walk_at "nx"
  refine hands_wp st (by omega) (by omega) (by omega) fun hs S5 g5 st h0 h1 hb hr => ?_
  walk_at "vc"
  walk_at "go"
  obtain ⟨m, rfl⟩ := Int.eq_ofNat_of_zero_le d0
  have e1 : (1 : Int) + (m : Nat) = ((m + 1 : Nat) : Int) := by omega
  rw [e1]
  have hm : m + 1 ≤ 6 := by omega
  clear g1 g2 g3 g4 g5 st c0
  unfold q__law_program_2
  walk_at "nx"
  rw [if_pos (show In62 ((m + 1 : Nat) : Int) from ⟨by omega, by omega⟩)]
  walk_at "vc"
  have hrl : (rangeL 0 ((m + 1 : Nat) : Int).toNat).length = m + 1 := by rw [range_len, Int.toNat_natCast]
  rw [if_pos (show (rangeL 0 ((m + 1 : Nat) : Int).toNat).length ≤ sizeLine by rw [hrl]; exact sz_le (by omega))]
  walk_at "vc"
  refine comp_wp (fun i es S' => S' = S5 ∧ es = (((iota (m + 1)).take i).map fun r => ((hs.count r : Nat) : Int)).map .int) ⟨rfl, rfl⟩ (fun _ _ _ _ => trivial) ?_ ?_
  · rintro i d es S' hi ⟨rfl, rfl⟩
    obtain ⟨rfl, hi2⟩ := range_at hi
    rw [Int.toNat_natCast] at hi2
    refine ⟨_, rfl, ?_⟩
    walk_at "vc"
    unfold q__law_program_1
    walk_at "vc"
    rw [if_pos (show (hs.map D.int).length ≤ sizeLine from sz_le (by rw [List.length_map]; omega))]
    walk_at "vc"
    refine comp_wp (fun j es S'' => S'' = S' ∧ es = ((hs.take j).filter fun z => decide (z = 0 + (i : Int))).map .int) ⟨rfl, rfl⟩ (fun _ _ _ _ => trivial) ?_ ?_
    · rintro j d es S'' hj ⟨rfl, rfl⟩
      rw [List.getElem?_map] at hj
      cases hz : hs[j]? with
      | none => rw [hz] at hj; cases hj
      | some z =>
        rw [hz] at hj
        cases hj
        refine ⟨_, rfl, ?_⟩
        walk_at "vc"
        have ht : hs.take (j + 1) = hs.take j ++ [z] := by rw [List.take_add_one, hz]; rfl
        rw [ht, List.filter_append]
        by_cases h : z = 0 + (i : Int)
        · rw [decide_eq_true h]
          walk_at "vc"
          rw [List.filter_cons_of_pos (by simpa using h)]
          simp
        · rw [decide_eq_false h]
          walk_at "vc"
          rw [List.filter_cons_of_neg (by simpa using h)]
          simp
    · rintro es S'' ⟨rfl, rfl⟩
      walk_at "vc"
      rw [blt_lenA (d := .lst _) rfl (fun x h => nomatch h), List.length_map, List.length_map, List.take_length, filt_count]
      walk_at "vc"
      have ht : (iota (m + 1)).take (i + 1) = (iota (m + 1)).take i ++ [(i : Int)] := by
        rw [List.take_add_one, iota_at hi2]; rfl
      rw [ht, Int.zero_add]
      simp
  · rintro es S' ⟨rfl, rfl⟩
    walk_at "vc"
    rw [blt_tupleA (d := .lst _) (ds := (cntI hs (m + 1)).map .int) (by rw [hrl, List.take_of_length_le (by rw [iota_len]; omega)]; rfl)]
    walk_at "vc"
    walk_at "go"
    unfold q__law_program_3
    walk_at "nx"
    have ec : cutD (.fro (ns.map D.int)) (some 1) (some 61) S' = some (.lst (cutL (ns.map D.int) (some 1) (some 61))) := cut_lst seqL_fro
    rw [ec]
    walk_at "vc"
    have hcl := cut_len (xs := ns.map D.int)
    rw [List.length_map] at hcl
    rw [if_pos (show (cutL (ns.map D.int) (some 1) (some 61)).length ≤ sizeLine from sz_le (by omega))]
    walk_at "vc"
    have pm : (0 : Int) < ((m + 1 : Nat) : Int) := by omega
    refine comp_wp (fun i es S'' => S'' = S' ∧ ∃ os : List Int, es = os.map .int ∧ os.length = i) ⟨rfl, [], rfl, rfl⟩ (fun _ _ _ _ => trivial) ?_ ?_
    · rintro i d es S'' hi ⟨rfl, os, rfl, hl⟩
      obtain ⟨z, _, rfl⟩ := List.mem_map.mp (cutL_sub (List.mem_of_getElem? hi))
      refine ⟨_, rfl, ?_⟩
      walk_at "vc"
      rw [if_pos pm]
      walk_at "vc"
      exact ⟨os ++ [z % ((m + 1 : Nat) : Int)], by simp, by simp [hl]⟩
    · rintro es S'' ⟨rfl, os, rfl, hl⟩
      rw [← hl] at hcl
      walk_at "vc"
      walk_at "go"
      walk_at "st*"
      clear hl ec
      unfold l__law_program_4
      walk_at "nx"
      rw [if_pos (show In62 ((m + 1 : Nat) : Int) from ⟨by omega, by omega⟩)]
      walk_at "vc"
      have hos : os.length ≤ 60 := by omega
      have cl : (cntI hs (m + 1)).length = m + 1 := cnt_len
      have fr : ∀ rs : List (List D), True := fun _ => trivial
      refine for_wp (fun i ρ U => ∃ (rs : List (List D)) (x9 x10 x11 x12 : Option D), U[S''.length]? = some (.lst (os.map .int)) ∧ U[S''.length + 1]? = some (.lst (rs.map .tup)) ∧ rs.length = i ∧ (∀ s ∈ rs, s.length ≤ 60 ∧ ∀ d ∈ s, Stp (s.length : Nat) (cntI hs (m + 1)) d) ∧
        ρ = [some (D.fro (List.map D.int ns)), some (D.ref 0), some (D.int ((m + 1 : Nat) : Int)), some (D.int (1 + ro)), some (D.tup [D.int la, D.int lb]), some (D.tup (List.map D.int hs)), some (D.tup (List.map D.int (cntI hs (m + 1)))), some (D.ref (List.length S'')), some (D.ref (List.length S'' + 1)), x9, x10, x11, x12, none, none, none]) ⟨[], _, _, _, _, by rw [getT0]; rfl, by rw [getT]; rfl, rfl, (fun s hs => nomatch hs), rfl⟩ (fun _ _ _ _ => trivial) ?_ ?_
      · rintro i d ρ U hi ⟨rs, x9, x10, x11, x12, hj, hk, hl, hrs, rfl⟩
        obtain ⟨rfl, hi2⟩ := range_at hi
        rw [Int.toNat_natCast] at hi2
        refine ⟨_, rfl, ?_⟩
        unfold b__law_program_4 q__law_program_5
        walk_at "nx"
        rw [hj]
        walk_at "vc"
        rw [if_pos (show (os.map D.int).length ≤ sizeLine from sz_le (by rw [List.length_map]; omega))]
        walk_at "vc"
        refine comp_wp (fun j es S'' => U = S'' ∧ es = ((os.take j).filter fun z => decide (z = 0 + (i : Int))).map .int) ⟨rfl, rfl⟩ (fun _ _ _ e => by rw [← e.1]; exact ⟨hj, trivial⟩) ?_ ?_
        · rintro j d es S2 hjj ⟨rfl, rfl⟩
          rw [List.getElem?_map] at hjj
          cases hz : os[j]? with
          | none => rw [hz] at hjj; cases hjj
          | some z =>
            rw [hz] at hjj
            cases hjj
            refine ⟨_, rfl, ?_⟩
            walk_at "vc"
            have ht : os.take (j + 1) = os.take j ++ [z] := by rw [List.take_add_one, hz]; rfl
            rw [ht, List.filter_append]
            by_cases h : z = 0 + (i : Int)
            · rw [decide_eq_true h]
              walk_at "vc"
              rw [List.filter_cons_of_pos (by simpa using h)]
              simp
            · rw [decide_eq_false h]
              walk_at "vc"
              rw [List.filter_cons_of_neg (by simpa using h)]
              simp
        · rintro es S2 ⟨rfl, rfl⟩
          walk_at "vc"
          rw [blt_lenA (d := .lst _) rfl (fun x h => nomatch h), List.length_map, List.length_map, List.take_length, filt_count, Int.zero_add]
          walk_at "vc"
          walk_at "go"
          walk_at "st*"
          unfold l__law_program_6
          walk_at "nx"
          have hjU : ∀ T, (U ++ T)[S''.length]? = some (.lst (os.map .int)) := fun T => by rw [List.getElem?_append_left (List.getElem?_eq_some_iff.mp hj).1]; exact hj
          have hln : ∀ T, bltD .len [.ref S''.length] (U ++ T) = some (.int (os.length : Nat)) := fun T => by
            rw [blt_lenA (d := .ref S''.length) (ds := os.map .int) (by rw [seqA_ref, hjU]) (fun x h => nomatch h), List.length_map]
          rw [hln]
          walk_at "vc"
          rw [if_pos (show In62 ((os.length : Nat) : Int) from ⟨by omega, by omega⟩)]
          walk_at "vc"
          have hrl2 : (rangeL 0 ((os.length : Nat) : Int).toNat).length = os.length := by rw [range_len, Int.toNat_natCast]
          refine for_wp (fun j ρ V => ∃ (ds : List D) (x12 : Option D), V = U ++ [.lst ds] ∧ ds.length = (os.take j).count (i : Int) ∧ ds.length ≤ j ∧ (∀ d ∈ ds, Stp ((os.count (i : Int) : Nat) : Int) (cntI hs (m + 1)) d) ∧
            ρ = [some (D.fro (List.map D.int ns)), some (D.ref 0), some (D.int ((m + 1 : Nat) : Int)), some (D.int (1 + ro)), some (D.tup [D.int la, D.int lb]), some (D.tup (List.map D.int hs)), some (D.tup (List.map D.int (cntI hs (m + 1)))), some (D.ref (List.length S'')), some (D.ref (List.length S'' + 1)), some (D.int (i : Int)), some (D.int ((os.count (i : Int) : Nat) : Int)), some (D.ref U.length), x12, none, none, none]) ⟨[], _, rfl, rfl, by simp, (fun d hd => nomatch hd), rfl⟩ (fun _ _ _ _ => trivial) ?_ ?_
          · rintro j d ρ V hjj ⟨ds, x12, rfl, hdl, hdj, hds, rfl⟩
            obtain ⟨rfl, hj2⟩ := range_at hjj
            rw [Int.toNat_natCast] at hj2
            refine ⟨_, rfl, ?_⟩
            unfold b__law_program_6
            walk_at "vc"
            have hix : idxD (.ref S''.length) (.int (0 + (j : Int))) (U ++ [.lst ds]) = some (.int os[j]) := by
              rw [idx_ref (hjU _), Int.zero_add]
              exact atI_nat (by omega) (by rw [Int.toNat_natCast, List.getElem?_map, List.getElem?_eq_getElem hj2]; rfl)
            rw [hix]
            walk_at "vc"
            have hct := count_take (r := (i : Int)) hj2
            have hcc : (os.take j).count (i : Int) ≤ os.length := Nat.le_trans List.count_le_length (by rw [List.length_take]; omega)
            by_cases h : os[j] = (i : Int)
            · rw [decide_eq_true h]
              walk_at "vc"
              have hj3 : 1 + j < ns.length := by omega
              have hx : ∀ T, idxD (.fro (ns.map D.int)) (.int (1 + (0 + (j : Int)))) T = some (.int ns[1 + j]) := fun T => by
                show atI (ns.map D.int) (1 + (0 + (j : Int))) = _
                exact atI_nat (by omega) (by rw [show (1 + (0 + (j : Int))).toNat = 1 + j by omega, List.getElem?_map, List.getElem?_eq_getElem hj3]; rfl)
              rw [hx]
              walk_at "vc"
              rw [if_pos (fdiv_ok pm (by omega))]
              walk_at "vc"
              have hcl3 : os.count (i : Int) ≤ os.length := List.count_le_length
              refine step_wp (by omega) (by omega) (by omega) (by omega) fun d hd => ?_
              walk_at "vc"
              rw [box_pl (stp_pl hd)]
              walk_at "vc"
              rw [if_pos (show ds.length < sizeLine from sz_lt (by omega))]
              walk_at "vc"
              rw [if_pos h] at hct
              refine ⟨ds ++ [d], _, rfl, by rw [List.length_append, List.length_cons, List.length_nil]; omega, by rw [List.length_append, List.length_cons, List.length_nil]; omega, fun x hx => ?_, rfl⟩
              rcases List.mem_append.mp hx with y | y
              · exact hds x y
              · simp only [List.mem_cons, List.not_mem_nil, or_false] at y
                subst y
                exact hd
            · rw [decide_eq_false h]
              walk_at "vc"
              rw [if_neg h] at hct
              exact ⟨ds, _, rfl, by omega, by omega, hds, rfl⟩
          · rintro ρ V ⟨ds, x12, rfl, hdl, hdj, hds, rfl⟩
            rw [hrl2, List.take_length] at hdl
            rw [hrl2] at hdj
            walk_at "go"
            walk_at "vc"
            rw [blt_tupleA (ds := ds) (by rw [seqA_ref, getT0]; rfl)]
            walk_at "vc"
            have hkl := (List.getElem?_eq_some_iff.mp hk).1
            have hkU : (U ++ [.lst ds])[S''.length + 1]? = some (.lst (rs.map .tup)) := by rw [List.getElem?_append_left hkl]; exact hk
            rw [hkU]
            walk_at "vc"
            rw [if_pos (show (rs.map D.tup).length < sizeLine from sz_lt (by rw [List.length_map]; omega))]
            walk_at "vc"
            refine ⟨rs ++ [ds], _, _, _, _, ?_, ?_, by rw [List.length_append, List.length_cons, List.length_nil]; omega, fun s hs => ?_, rfl⟩
            · rw [List.getElem?_set_ne (by omega)]; exact hjU _
            · rw [List.getElem?_set_self (by rw [List.length_append]; omega), List.map_append]; rfl
            · rcases List.mem_append.mp hs with y | y
              · exact hrs s y
              · simp only [List.mem_cons, List.not_mem_nil, or_false] at y
                subst y
                exact ⟨by omega, fun d hd => by rw [hdl]; exact hds d hd⟩
      · rintro ρ U ⟨rs, x9, x10, x11, x12, hj, hk, hl, hrs, rfl⟩
        rw [hrl] at hl
        walk_at "go"
        walk_at "vc"
        rw [blt_tupleA (ds := rs.map .tup) (by rw [seqA_ref, hk])]
        walk_at "vc"
        have hP : Prg (1 + ro) la lb rs hs := ⟨⟨by omega, by omega, by omega, by omega, by omega, by omega, by omega, by omega, fun s hs => (hrs s hs).1, h0, h1, fun z hz => by have := hb z hz; rw [hl]; omega, hr⟩, fun s hs d hd => by rw [hl]; exact (hrs s hs).2 d hd⟩
        have hlo : (progD (1 + ro) la lb rs hs).lo ([] : Store).length = true := by
          have : loL 0 (rs.map D.tup) = true := loL_of fun d hd => by
            obtain ⟨s, hs, rfl⟩ := List.mem_map.mp hd
            exact pl_lo (nb := true) (.tup s) 4 0 (by rw [pl_tup]; exact plL_mem.mpr fun x hx => stp_pl ((hrs s hs).2 x hx))
          unfold progD
          rw [List.length_nil, lo_tup, loL_cons, loL_cons, loL_cons, loL_cons, lo_tup, lo_tup, lo_tup, lo_ints, this]
          rfl
        exact closeR_app (S := []) hlo (q _ _ _ _ _ hP)
end Ev.K17
namespace Ev.K17
open PySem PySem.Spec PyProof.Rows L2 Ev
/-! ### the order of alike data -/
def ltP (a b : D) : Bool := PySem.W.dataLt (toP a) (toP b)
theorem lt_self (a : D) : ltP a a = false := PyProof.Rows.lex_irrefl _
theorem lt_tr {a b c : D} (h1 : ltP a b = true) (h2 : ltP b c = true) : ltP a c = true := PyProof.Rows.lex_trans _ _ _ h1 h2
/-- plain, all alike -/
structure AlkS (P : D → Prop) : Prop where
  pl : ∀ d, P d → d.pl false 7 = true
  al : ∀ d e, P d → P e → PySem.W.alike (toP d) (toP e) = true
  nn : ∀ d, P d → toP d ≠ .none
theorem AlkS.anti {P : D → Prop} (A : AlkS P) {a b : D} (ha : P a) (hb : P b) (h1 : ltP a b = false) (h2 : ltP b a = false) : a = b := by
  have hk : PySem.W.keyToks (toP a) = PySem.W.keyToks (toP b) := PyProof.Rows.lex_total _ _ h1 h2
  have hal := A.al a b ha hb
  refine toP_inj a b 7 7 (A.pl a ha) (A.pl b hb) ?_
  cases he : PyData.eqv (toP a) (toP b) with
  | true => exact alike_eq _ _ hal he
  | false =>
    exfalso
    have h := (PySem.W.toks_eqv _ _ hal).2 he [] [.inl 0]
    rw [hk, PySem.W.lex_pre, PyProof.Rows.lex_irrefl] at h
    cases h
theorem AlkS.alk {P : D → Prop} (A : AlkS P) {ds : List D} (h : ∀ d ∈ ds, P d) : Alk ds := by
  refine ⟨⟨7, by decide, plL_mem.mpr fun d hd => A.pl d (h d hd)⟩, fun x hx y hy => ?_, fun x hx => ?_⟩
  · rw [toPL_map] at hx hy
    obtain ⟨d, hd, rfl⟩ := List.mem_map.mp hx
    obtain ⟨e, he, rfl⟩ := List.mem_map.mp hy
    exact A.al d e (h d hd) (h e he)
  · rw [toPL_map] at hx
    obtain ⟨d, hd, rfl⟩ := List.mem_map.mp hx
    exact A.nn d (h d hd)
/-- m is a least one -/
def Lst (l : List D) (m : D) : Prop := m ∈ l ∧ ∀ y ∈ l, ltP y m = false
theorem mn_lst : ∀ (xs : List D) (x : D), Lst (x :: xs) (mnF x xs)
  | [], x => ⟨by unfold mnF; simp, fun y hy => by simp at hy; subst hy; exact lt_self _⟩
  | y :: ys, x => by
    have e : mnF x (y :: ys) = mnF (if PySem.W.dataLt (toP y) (toP x) then y else x) ys := rfl
    obtain ⟨h1, h2⟩ := mn_lst ys (if PySem.W.dataLt (toP y) (toP x) then y else x)
    refine ⟨mnF_mem _ _, fun z hz => ?_⟩
    rw [e]
    have hb := h2 _ (List.mem_cons_self)
    by_cases h : PySem.W.dataLt (toP y) (toP x) = true
    · rw [if_pos h] at hb h2 ⊢
      rcases List.mem_cons.mp hz with rfl | hz
      · cases hq : ltP z (mnF y ys) with
        | false => rfl
        | true => rw [lt_tr (show ltP y z = true from h) hq] at hb; cases hb
      · rcases List.mem_cons.mp hz with rfl | hz
        · exact hb
        · exact h2 z (List.mem_cons_of_mem _ hz)
    · rw [if_neg h] at hb h2 ⊢
      rcases List.mem_cons.mp hz with rfl | hz
      · exact hb
      · rcases List.mem_cons.mp hz with rfl | hz
        · cases hq : ltP z (mnF x ys) with
          | false => rfl
          | true =>
            rcases PyProof.Rows.lex_negTrans _ (PySem.W.keyToks (toP x)) _ hq with h3 | h3
            · exact absurd h3 h
            · rw [show ltP x (mnF x ys) = true from h3] at hb; cases hb
        · exact h2 z (List.mem_cons_of_mem _ hz)
theorem AlkS.uniq {P : D → Prop} (A : AlkS P) {l l' : List D} {m m' : D} (hl : ∀ d ∈ l, P d) (h : Lst l m) (h' : Lst l' m') (e : ∀ d, d ∈ l ↔ d ∈ l') : m = m' := by
  have hm' := (e m').mpr h'.1
  exact A.anti (hl _ h.1) (hl _ hm') (h'.2 _ ((e m).mp h.1)) (h.2 _ hm')
/-! ### worlds are alike -/
theorem alkL : ∀ {ds es : List D}, (∀ d ∈ ds, ∀ e ∈ es, PySem.W.alike (toP d) (toP e) = true) → PySem.W.alikeAll (toPL ds) (toPL es) = true
  | [], [], _ => by unfold toPL PySem.W.alikeAll; rfl
  | [], _ :: _, _ => by unfold toPL PySem.W.alikeAll; rfl
  | _ :: _, [], _ => by unfold toPL PySem.W.alikeAll; rfl
  | d :: ds, e :: es, h => by
    unfold toPL PySem.W.alikeAll
    rw [h d (by simp) e (by simp), alkL fun d hd e he => h d (List.mem_cons_of_mem _ hd) e (List.mem_cons_of_mem _ he)]; rfl
theorem alkT {ds es : List D} (h : PySem.W.alikeAll (toPL ds) (toPL es) = true) : PySem.W.alike (toP (.tup ds)) (toP (.tup es)) = true := by
  rw [toP_tup, toP_tup]; unfold PySem.W.alike; exact h
theorem alkI {i j : Int} : PySem.W.alike (toP (.int i)) (toP (.int j)) = true := by rw [toP_int, toP_int]; unfold PySem.W.alike; rfl
theorem alkC {d e : D} {ds es : List D} (h : PySem.W.alike (toP d) (toP e) = true) (h2 : PySem.W.alikeAll (toPL ds) (toPL es) = true) : PySem.W.alikeAll (toPL (d :: ds)) (toPL (e :: es)) = true := by
  rw [toPL_cons, toPL_cons]; unfold PySem.W.alikeAll; rw [h, h2]; rfl
theorem alkN : PySem.W.alikeAll (toPL []) (toPL []) = true := by unfold toPL PySem.W.alikeAll; rfl
/-! ### spots -/
def spD (c : Nat × Nat) : D := .tup [.int (c.1 : Nat), .int (c.2 : Nat)]
def IsS (d : D) : Prop := ∃ c, d = spD c
theorem spD_pl {c : Nat × Nat} {n : Nat} {nb : Bool} : (spD c).pl nb (n + 1) = true := by
  unfold spD
  rw [pl_tup, plL_cons, plL_cons, plL_nil]
  unfold D.pl; rfl
theorem alkSp : AlkS IsS := ⟨fun d ⟨c, e⟩ => by rw [e]; exact spD_pl, fun d e ⟨c, h⟩ ⟨c', h'⟩ => by
  rw [h, h']; exact alkT (alkC alkI (alkC alkI alkN)), fun d ⟨c, e⟩ => by rw [e]; unfold spD; rw [toP_tup]; exact fun h => nomatch h⟩
theorem sp_lt {a b : Nat × Nat} : ltP (spD a) (spD b) = decide ((a.1 : Int) < b.1 ∨ ((a.1 : Int) = b.1 ∧ (a.2 : Int) < b.2)) := by
  unfold ltP spD
  rw [toP_tup, toP_tup, toPL_cons, toPL_cons, toPL_nil, toPL_cons, toPL_cons, toPL_nil, toP_int, toP_int, toP_int, toP_int]
  exact PySem.W.dataLt_ii _ _ _ _
/-- the first of the spots is the least -/
theorem min_sp {C : List (Nat × Nat)} {r p k : Nat} {V : Store} (hm : (r, p) ∈ C) (hf : ∀ c ∈ C, r < c.1 ∨ r = c.1 ∧ p ≤ c.2) (hk : V[k]? = some (.lst (C.map spD))) : minN [.ref k] V = some (spD (r, p)) := by
  have isl : ∀ d ∈ C.map spD, IsS d := fun d hd => by
    obtain ⟨c, _, rfl⟩ := List.mem_map.mp hd
    exact ⟨c, rfl⟩
  have hl : Lst (C.map spD) (spD (r, p)) := ⟨List.mem_map_of_mem hm, fun y hy => by
    obtain ⟨c, hc, rfl⟩ := List.mem_map.mp hy
    rw [sp_lt]
    refine decide_eq_false ?_
    have := hf c hc
    dsimp only
    omega⟩
  unfold minN
  dsimp only
  rw [seqL_ref, hk]
  cases hC : C with
  | nil => rw [hC] at hm; cases hm
  | cons c C' =>
    rw [hC, List.map_cons] at isl hl
    rw [List.map_cons]
    dsimp only
    rw [if_pos (alkSp.alk isl), alkSp.uniq isl (mn_lst _ _) hl (fun d => Iff.rfl)]
end Ev.K17
namespace Ev.K17
open PySem PySem.Spec PyProof.Rows L2 Ev
/-! ### what is refused, also where lists lie in it -/
/-- plain, or a list -/
def Lx (S : Store) (n : Nat) (d : D) : Prop := d.pl false n = true ∨ ∃ k ds, d = .ref k ∧ S[k]? = some (.lst ds) ∧ plL false n ds = true
theorem Lx.app {S T : Store} {n : Nat} {d : D} (h : Lx S n d) : Lx (S ++ T) n d := by
  rcases h with h | ⟨k, ds, rfl, h, p⟩
  · exact .inl h
  · exact .inr ⟨k, ds, rfl, by rw [List.getElem?_append_left (List.getElem?_eq_some_iff.mp h).1]; exact h, p⟩
theorem Lx.box {S U : Store} {n : Nat} {d : D} (h : Lx S n d) : box d U = (d, U) := by
  rcases h with h | ⟨k, ds, rfl, h, p⟩
  · exact box_pl h
  · rfl
theorem Lx.toPy {S : Store} {n : Nat} {d : D} (hn : n ≤ 50) (h : Lx S n d) : ∃ p, py S 65 d = some p ∧ Shp (n + 1) p := by
  rcases h with h | ⟨k, ds, rfl, h, p⟩
  · exact ⟨toP d, py_pl d n 65 (by omega) h, (Shp.ofD h).up (by omega)⟩
  · refine ⟨.list (toPL ds), ?_, ?_⟩
    · rw [py_lst (k := 64) (ds := ds) (by rw [seqL_ref, h]), py_plL ds n 64 (by omega) p]; rfl
    · obtain ⟨a, b⟩ := shp_plL ds n p
      unfold Shp PyData.canLay0 PyData.depth
      exact ⟨a, by omega⟩
theorem mapM_some {α β : Type} {f : α → Option β} {P : β → Prop} : ∀ {xs : List α}, (∀ x ∈ xs, ∃ y, f x = some y ∧ P y) → ∃ ys, xs.mapM f = some ys ∧ ys.length = xs.length ∧ ∀ y ∈ ys, P y
  | [], _ => ⟨[], rfl, rfl, by simp⟩
  | x :: xs, h => by
    obtain ⟨y, h1, h2⟩ := h x (by simp)
    obtain ⟨ys, h3, h4, h5⟩ := mapM_some fun z hz => h z (List.mem_cons_of_mem _ hz)
    refine ⟨y :: ys, by rw [List.mapM_cons, h1, h3]; rfl, by simp [h4], fun z hz => ?_⟩
    rcases List.mem_cons.mp hz with rfl | hz
    · exact h2
    · exact h5 z hz
theorem eq_nilX {S : Store} {n : Nat} {ds : List D} (hn : n ≤ 50) (h : ∀ d ∈ ds, ∃ p, py S 65 d = some p ∧ Shp n p) (h0 : ds ≠ []) : eqD S (.tup ds) (.tup []) = some false := by
  obtain ⟨ps, h1, h2, h3⟩ := mapM_some h
  have e : py S 66 (.tup ds) = some (.tuple ps) := by
    show (ds.mapM (py S 65)).map PyData.tuple = _
    rw [h1]; rfl
  rw [eqD_shp e (q := .tuple []) rfl (Shp.tuple h3) (Shp.tuple (n := 0) (by simp)) (by omega) (by omega)]
  cases ps with
  | nil => exact absurd (List.length_eq_zero_iff.mp h2.symm) h0
  | cons p ps => rfl
theorem fromX_wp {d : D} {n : Nat} {lo hi : Int} {S : Store} {Q : D → Store → Prop} {E : XP} (hd : d.pl false n = true) (q : Q (.bl (fromB lo hi d)) S) : (f_is_from [d, .int lo, .int hi] S).wp Q E := from_wp hd q
theorem lineX_wp {d : D} {n : Nat} {len : Int} {S : Store} {Q : D → Store → Prop} {E : XP} (hd : Lx S (n + 1) d) (q : Q (.bl (lineB len d)) S) : (f_fits_line [d, .int len] S).wp Q E := by
  rcases hd with hd | ⟨k, ds, rfl, hk, p⟩
  · exact line_wp hd q
  · refine run_wp ?_
    walk_at "vc"
    unfold m_fits_line
    walk_at "nx"
    rw [hk]
    walk_at "vc"
    exact closeR_same q
/-- the lines of take, a list or with lists -/
def Lxs (S : Store) (d : D) : Prop := (∃ ds, d = .tup ds ∧ ds.length ≤ 1000 ∧ ∀ x ∈ ds, Lx S 3 x) ∨ Lx S 4 d ∧ ∀ ds, d ≠ .tup ds
theorem Lxs.app {S T : Store} {d : D} (h : Lxs S d) : Lxs (S ++ T) d := by
  rcases h with ⟨ds, h1, h2, h3⟩ | ⟨h, h2⟩
  · exact .inl ⟨ds, h1, h2, fun x hx => (h3 x hx).app⟩
  · exact .inr ⟨h.app, h2⟩
theorem Lxs.box {S U : Store} {d : D} (h : Lxs S d) : box d U = (d, U) := by
  rcases h with ⟨ds, rfl, _⟩ | ⟨h, _⟩
  · rfl
  · exact h.box
theorem Lxs.toPy {S : Store} {d : D} (h : Lxs S d) : ∃ p, py S 65 d = some p ∧ Shp 6 p := by
  rcases h with ⟨ds, rfl, _, h⟩ | ⟨h, _⟩
  · have : ∀ x ∈ ds, ∃ p, py S 64 x = some p ∧ Shp 5 p := fun x hx => by
      rcases h x hx with h | ⟨k, es, rfl, h, p⟩
      · exact ⟨toP x, py_pl x 3 64 (by omega) h, (Shp.ofD h).up (by omega)⟩
      · refine ⟨.list (toPL es), ?_, ?_⟩
        · rw [py_lst (k := 63) (ds := es) (by rw [seqL_ref, h]), py_plL es 3 63 (by omega) p]; rfl
        · obtain ⟨a, b⟩ := shp_plL es 3 p
          unfold Shp PyData.canLay0 PyData.depth
          exact ⟨a, by omega⟩
    obtain ⟨ps, h1, h2, h3⟩ := mapM_some this
    refine ⟨.tuple ps, ?_, Shp.tuple h3⟩
    show (ds.mapM (py S 64)).map PyData.tuple = _
    rw [h1]; rfl
  · obtain ⟨p, h1, h2⟩ := h.toPy (by omega)
    exact ⟨p, h1, h2.up (by omega)⟩
theorem linesX_wp {d : D} {len : Int} {S : Store} {Q : D → Store → Prop} {E : XP} (hd : Lxs S d) (hb : linesB len d = false) (hc : ∀ ds, d = .tup ds → ds ≠ [] → ds.all (lineB len) = false) (q : Q (.bl false) S) : (f_fits_lines [d, .int len] S).wp Q E := by
  rcases hd with ⟨ds, rfl, hz, hd⟩ | ⟨hd, hne⟩
  · cases ds with
    | nil => exact lines_wp (n := 3) (by decide) (by rw [pl_tup]; unfold plL; rfl) (fun ds e => by cases e; simp) (by rw [hb]; exact q)
    | cons d ds =>
      have hc := hc _ rfl (by simp)
      refine run_wp ?_
      walk_at "vc"
      unfold m_fits_lines
      walk_at "nx"
      rw [eq_nilX (n := 4) (by omega) (fun x hx => (hd x hx).toPy (by omega)) (by simp)]
      generalize d :: ds = xs at *
      walk_at "vc"
      walk_at "go"
      walk_at "nx"
      unfold q_fits_lines_1
      walk_at "vc"
      rw [if_pos (show xs.length ≤ sizeLine from sz_le (by omega))]
      walk_at "vc"
      refine comp_wp (fun i es S' => S = S' ∧ es = (xs.take i).map fun x => .bl (lineB len x)) ⟨rfl, rfl⟩ (fun _ _ _ _ => trivial) ?_ ?_
      · rintro i d es S' hi ⟨rfl, rfl⟩
        have hx := hd d (List.mem_of_getElem? hi)
        refine ⟨_, rfl, ?_⟩
        walk_at "vc"
        refine lineX_wp (n := 2) hx ?_
        walk_at "vc"
        obtain ⟨hl, e1⟩ := List.getElem?_eq_some_iff.mp hi
        rw [← List.take_append_getElem hl, List.map_append, e1]
        rfl
      · rintro es S' ⟨rfl, rfl⟩
        rw [List.take_length]
        walk_at "vc"
        rw [all_lst]
        have ea : (xs.map (lineB len)).all id = xs.all (lineB len) := by rw [List.all_map]; rfl
        rw [ea, hc]
        walk_at "vc"
        exact closeR_same q
  · rcases hd with hd | ⟨k, ds, rfl, hk, p⟩
    · exact lines_wp (n := 2) (by decide) hd (fun ds e => absurd e (hne ds)) (by rw [hb]; exact q)
    · refine run_wp ?_
      walk_at "vc"
      unfold m_fits_lines
      walk_at "nx"
      rw [hk]
      walk_at "vc"
      exact closeR_same q
theorem lnsX_wp {len : Int} {cs : List Int} {d : D} {S : Store} {Q : D → Store → Prop} {E : XP} (hd : Lxs S d) (hb : linesB len d = false) (hc : ∀ ds, d = .tup ds → ds ≠ [] → ds.all (lineB len) = false) (q : Q (.bl false) S) : (f_fits [.str "lines", d, .int len, .tup (cs.map .int)] S).wp Q E := by
  refine run_wp ?_
  walk_at "vc"
  rw [hd.box]
  walk_at "vc"
  unfold m_fits
  walk_at "if0"
  walk_at "nx"
  walk_at "sq"
  walk_at "vc"
  refine linesX_wp hd hb hc ?_
  exact closeR_same q
/-- what sure refuses -/
def Sur (len : Int) (cs : List Int) (bad : D) (S : Store) : Prop := ∀ {Q : D → Store → Prop} {E : XP}, E "NoStep" [] [] S → (f_sure [bad, .int len, .tup (cs.map .int)] S).wp Q E
theorem sur_flat {len : Int} {cs : List Int} {bad : D} {S : Store} (hb : bad = .non ∨ (∃ i, bad = .int i) ∨ (∃ x, bad = .str x) ∨ ∃ k ds, bad = .ref k ∧ S[k]? = some (.lst ds)) : Sur len cs bad S := by
  intro Q E e
  refine run_wp ?_
  rcases hb with rfl | ⟨i, rfl⟩ | ⟨x, rfl⟩ | ⟨k, ds, rfl, hk⟩
  · walk_at "vc"
    unfold m_sure
    walk_at "nx"
    rw [closeL_same (by simp)]
    exact e
  · walk_at "vc"
    unfold m_sure
    walk_at "nx"
    rw [closeL_same (by simp)]
    exact e
  · walk_at "vc"
    unfold m_sure
    walk_at "nx"
    rw [closeL_same (by simp)]
    exact e
  · walk_at "vc"
    unfold m_sure
    walk_at "nx"
    rw [hk]
    walk_at "vc"
    rw [closeL_same (by simp)]
    exact e
theorem sur_nil {len : Int} {cs : List Int} {S : Store} : Sur len cs (.tup []) S := by
  intro Q E e
  refine run_wp ?_
  walk_at "vc"
  unfold m_sure
  walk_at "nx"
  rw [eq_nil0]
  walk_at "vc"
  rw [closeL_same (by simp)]
  exact e
theorem sur_nostr {len : Int} {cs : List Int} {S : Store} {x : D} {args : List D} {n : Nat} (hn : n ≤ 50) (hx : x = .non ∨ ∃ i, x = .int i) (hp : plL false n args = true) : Sur len cs (.tup (x :: args)) S := by
  intro Q E e
  have hpl : plL false n (x :: args) = true := by
    rw [pl_cons, hp]
    rcases hx with rfl | ⟨i, rfl⟩ <;> (unfold D.pl; rfl)
  refine run_wp ?_
  walk_at "vc"
  unfold m_sure
  walk_at "nx"
  rw [eq_nil (n := n) (by omega) hpl]
  walk_at "vc"
  rcases hx with rfl | ⟨i, rfl⟩
  · walk_at "vc"
    rw [closeL_same (by simp)]
    exact e
  · walk_at "vc"
    rw [closeL_same (by simp)]
    exact e
theorem sur_word {len : Int} {cs : List Int} {S : Store} {w : Str} {args : List D} {n : Nat} (hn : n ≤ 50) (hs : PyData.strOk w = true) (hw : tb_FORMS.lookup w = some none) (hp : plL false n args = true) : Sur len cs (.tup (.str w :: args)) S := by
  intro Q E e
  have hpl : plL false n (.str w :: args) = true := by rw [pl_cons, hp]; unfold D.pl; rw [hs]; rfl
  refine run_wp ?_
  walk_at "vc"
  unfold m_sure
  walk_at "nx"
  rw [eq_nil (n := n) (by omega) hpl]
  walk_at "vc"
  have hci : cinD true tb_FORMS (.str w) = some (.bl true) := by simp only [cinD, hw]; rfl
  rw [hci]
  walk_at "vc"
  rw [closeL_same (by simp)]
  exact e
end Ev.K17
namespace Ev.K17
open PySem PySem.Spec PyProof.Rows L2 Ev
theorem sur_len {len : Int} {cs : List Int} {S : Store} {w : Str} {sorts : List Str} {args : List D} {n : Nat} (hn : n ≤ 50) (hw : (w, sorts) ∈ formL) (hp : plL false n args = true) (hl : args.length ≠ sorts.length) : Sur len cs (.tup (.str w :: args)) S := by
  intro Q E e
  have hs : PyData.strOk w = true := (show ∀ p ∈ formL, PyData.strOk p.1 = true by decide +kernel) _ hw
  have htb := form_tb hw
  have hpl : plL false n (.str w :: args) = true := by rw [pl_cons, hp]; unfold D.pl; rw [hs]; rfl
  refine run_wp ?_
  walk_at "vc"
  unfold m_sure
  walk_at "nx"
  rw [eq_nil (n := n) (by omega) hpl]
  walk_at "vc"
  have hci : cinD true tb_FORMS (.str w) = some (.bl false) := by simp only [cinD, htb]; rfl
  rw [hci]
  walk_at "vc"
  walk_at "go"
  walk_at "nx"
  have hcg : cgetD tb_FORMS (.str w) = some (.tup (sorts.map .str)) := by simp only [cgetD, htb]
  rw [hcg]
  walk_at "vc"
  walk_at "go"
  walk_at "nx"
  rw [len_tup]
  walk_at "vc"
  rw [len_tup]
  walk_at "vc"
  have e1 : decide ((((args.length + 1 : Nat) : Int)) = ((sorts.map D.str).length : Nat) + 1) = false := by
    rw [List.length_map]; exact decide_eq_false (by omega)
  simp only [List.length_cons, e1]
  walk_at "vc"
  rw [closeL_same (by simp)]
  exact e
theorem sur_okA {len : Int} {cs : List Int} {S : Store} {w : Str} {sorts : List Str} {args : List D} {n : Nat} (hn : n ≤ 50) (hw : (w, sorts) ∈ formL) (hl : args.length = sorts.length) (hd : plL false (n + 2) args = true) (hz : ∀ d ∈ args, ∀ ds, d = .tup ds → ds.length ≤ 1000) (hok : okA len cs sorts args = false) : Sur len cs (.tup (.str w :: args)) S := by
  intro Q E e
  have hs : PyData.strOk w = true := (show ∀ p ∈ formL, PyData.strOk p.1 = true by decide +kernel) _ hw
  exact sure_wp hw hl (by omega) hs hd hz (fun h => by rw [hok] at h; cases h) fun _ => e
/-- take, with what are no lines -/
theorem sur_take {len : Int} {cs : List Int} {S : Store} {a : Int} {x : D} (hx : Lxs S x) (hb : linesB len x = false) (hc : ∀ ds, x = .tup ds → ds ≠ [] → ds.all (lineB len) = false) : Sur len cs (.tup [.str "take", .int a, x]) S := by
  intro Q E e
  have hpy : ∀ d ∈ [D.str "take", .int a, x], ∃ p, py S 65 d = some p ∧ Shp 6 p := by
    intro d hd
    simp only [List.mem_cons, List.not_mem_nil, or_false] at hd
    rcases hd with rfl | rfl | rfl
    · have hp : (D.str "take").pl false 0 = true := by unfold D.pl; decide +kernel
      exact ⟨_, py_pl _ 0 65 (by omega) hp, (Shp.ofD hp).up (by omega)⟩
    · have hp : (D.int a).pl false 0 = true := by unfold D.pl; rfl
      exact ⟨_, py_pl _ 0 65 (by omega) hp, (Shp.ofD hp).up (by omega)⟩
    · exact hx.toPy
  have htb := form_tb w_take
  refine run_wp ?_
  walk_at "vc"
  unfold m_sure
  walk_at "nx"
  rw [eq_nilX (n := 6) (by omega) hpy (by simp)]
  walk_at "vc"
  have hci : cinD true tb_FORMS (.str "take") = some (.bl false) := by simp only [cinD, htb]; rfl
  rw [hci]
  walk_at "vc"
  walk_at "go"
  walk_at "nx"
  have hcg : cgetD tb_FORMS (.str "take") = some (.tup ([.str "from", .str "lines"])) := by simp only [cgetD, htb]; rfl
  rw [hcg]
  walk_at "vc"
  walk_at "go"
  walk_at "nx"
  rw [len_tup]
  walk_at "vc"
  rw [len_tup]
  walk_at "vc"
  walk_at "go"
  unfold l_sure_1
  walk_at "vc"
  have ez : zipD S (.tup [.str "from", .str "lines"]) (.tup [.int a, x]) = some ([.tup [.str "from", .int a], .tup [.str "lines", x]], []) := rfl
  rw [ez]
  walk_at "vc"
  refine for_wp (fun i ρ S' => S = S' ∧ i ≤ 1 ∧ ∃ y z, ρ = [some (.tup [.str "take", .int a, x]), some (.int len), some (.tup (cs.map .int)), some (.tup [.str "from", .str "lines"]), y, z]) ⟨rfl, by omega, _, _, rfl⟩ (fun _ _ _ _ => trivial) ?_ ?_
  · rintro i d ρ S' hi ⟨rfl, _, y, z, rfl⟩
    match i, hi with
    | 0, hi =>
      cases hi
      refine ⟨_, rfl, ?_⟩
      unfold b_sure_1
      walk_at "vc"
      refine fits_wp (n := 0) (s := "from") (by unfold sortsL; simp) (by omega) (by unfold D.pl; rfl) (fun ds e => nomatch e) ?_
      cases hf : fitB len cs "from" (.int a) with
      | true =>
        walk_at "vc"
        exact ⟨by omega, _, _, rfl⟩
      | false =>
        walk_at "vc"
        rw [closeL_same (by simp)]
        exact e
    | 1, hi =>
      cases hi
      refine ⟨_, rfl, ?_⟩
      unfold b_sure_1
      walk_at "vc"
      refine lnsX_wp hx hb hc ?_
      walk_at "vc"
      rw [closeL_same (by simp)]
      exact e
  · rintro ρ S' ⟨rfl, h, _⟩
    exact absurd h (by simp)
theorem sof_wp {bad : D} {len : Int} {cs : List Int} {S : Store} {Q : D → Store → Prop} {E : XP} (hb : bad.cell? = none) (h : Sur len cs bad S) (e : E "NoStep" [] [] S) : (f_step_of [bad, .int len, .tup (cs.map .int)] S).wp Q E := by
  have bx : ∀ S, box bad S = (bad, S) := fun S => by unfold box; rw [hb]
  refine run_wp ?_
  walk_at "vc"
  rw [bx]
  walk_at "vc"
  unfold m_step_of
  walk_at "nx"
  refine h ?_
  rw [closeL_same (by simp)]
  exact e
end Ev.K17
namespace Ev.K17
open PySem PySem.Spec PyProof.Rows L2 Ev
/-- what the law puts in a step's stead -/
def badL : List D := [.tup [.str "put", .int 3, .int 0], .tup [.str "go", .int 61], .tup [.str "bell", .int 0], .int 5, .tup [.str "take", .int 0, .tup []], .tup [.str "only", .int 0, .int 6], .tup [.str "choose", .int 0, .int 0], .tup []]
theorem fitF {len : Int} {cs : List Int} {s : Str} {f : D → Bool} {d : D} (h : (fitTb len cs).lookup s = some f) (e : f d = false) : fitB len cs s d = false := by rw [fitB_at h]; exact e
theorem bad_sur {len : Int} {cs : List Int} {S : Store} (hl : len ≤ 60) (hc : cs.length ≤ 6) : ∀ d ∈ badL, Sur len cs d S := by
  intro d hd
  have pl1 : ∀ {i : Int} {n : Nat}, (D.int i).pl false n = true := fun {i n} => by unfold D.pl; rfl
  have hz : ∀ {a b : Int}, ∀ d ∈ [D.int a, D.int b], ∀ ds, d = .tup ds → ds.length ≤ 1000 := fun {a b} d hd ds e => by
    simp only [List.mem_cons, List.not_mem_nil, or_false] at hd
    rcases hd with rfl | rfl <;> cases e
  have p2 : ∀ {a b : Int} {n : Nat}, plL false n [D.int a, .int b] = true := fun {a b n} => by rw [plL_cons, plL_cons, plL_nil, pl1, pl1]; rfl
  have p1 : ∀ {a : Int} {n : Nat}, plL false n [D.int a] = true := fun {a n} => by rw [plL_cons, plL_nil, pl1]; rfl
  unfold badL at hd
  simp only [List.mem_cons, List.not_mem_nil, or_false] at hd
  rcases hd with rfl | rfl | rfl | rfl | rfl | rfl | rfl | rfl
  · intro Q E e
    refine sur_okA (w := "put") (sorts := ["box", "number"]) (n := 0) (by decide) (by decide +kernel) rfl p2 hz ?_ e
    unfold okA
    rw [fitF (f := fromB 0 2) (by unfold fitTb; walk_at "ls") (by rfl)]; rfl
  · intro Q E e
    refine sur_okA (w := "go") (sorts := ["place"]) (n := 0) (by decide) (by decide +kernel) rfl p1 (fun d hd ds e => by simp at hd; subst hd; cases e) ?_ e
    unfold okA
    rw [fitF (f := fromB 0 len) (by unfold fitTb; walk_at "ls") (by simp only [fromB, Bool.and_eq_false_iff, decide_eq_false_iff_not]; omega)]; rfl
  · intro Q E e
    exact sur_len (w := "bell") (sorts := []) (args := [.int 0]) (n := 0) (by decide) (by decide +kernel) p1 (by simp) e
  · intro Q E e
    exact sur_flat (.inr (.inl ⟨_, rfl⟩)) e
  · intro Q E e0
    refine sur_take (a := 0) (.inl ⟨[], rfl, by simp, fun x hx => nomatch hx⟩) rfl (fun ds e h => ?_) e0
    cases e; exact absurd rfl h
  · intro Q E e
    refine sur_okA (w := "only") (sorts := ["box", "single"]) (n := 0) (by decide) (by decide +kernel) rfl p2 hz ?_ e
    unfold okA okA
    rw [fitF (s := "single") (f := oneB cs) (by unfold fitTb; walk_at "ls") ?_]
    · simp
    · have : (decide (0 ≤ (6 : Int)) && decide ((6 : Int) ≤ (cs.length : Int) - 1)) = false := by
        simp only [Bool.and_eq_false_iff, decide_eq_false_iff_not]; omega
      simp only [oneB, this, Bool.false_and]
  · intro Q E e
    refine sur_okA (w := "choose") (sorts := ["box", "amount"]) (n := 0) (by decide) (by decide +kernel) rfl p2 hz ?_ e
    unfold okA okA
    rw [fitF (s := "amount") (f := fromB 1 20) (by unfold fitTb; walk_at "ls") (by rfl)]
    simp
  · intro Q E e
    exact sur_nil e
end Ev.K17
namespace Ev.K17
open PySem PySem.Spec PyProof.Rows L2 Ev
/-- the spots C are put otherwise, all others are good -/
structure Mix (room l1 l2 : Int) (roles : List (List D)) (hs : List Int) (C : List (Nat × Nat)) : Prop where
  wh : Whole room l1 l2 roles hs
  ok : ∀ (r p : Nat) s d, roles[r]? = some s → s[p]? = some d → (r, p) ∉ C → Stp (s.length : Nat) (cntI hs roles.length) d
  bad : ∀ (r p : Nat) s d, roles[r]? = some s → s[p]? = some d → (r, p) ∈ C → d ∈ badL
  at_ : ∀ c ∈ C, ∃ s, roles[c.1]? = some s ∧ c.2 < s.length
theorem badL_cell : ∀ d ∈ badL, d.cell? = none := by
  intro d hd
  unfold badL at hd
  simp only [List.mem_cons, List.not_mem_nil, or_false] at hd
  rcases hd with rfl | rfl | rfl | rfl | rfl | rfl | rfl | rfl <;> rfl
theorem look_first {room l1 l2 : Int} {roles : List (List D)} {hs : List Int} {C : List (Nat × Nat)} {S : Store} {Q : D → Store → Prop} {E : XP} (P : Mix room l1 l2 roles hs C) (q : C = [] → Q .non S)
    (e : ∀ r p, (r, p) ∈ C → (∀ c ∈ C, r < c.1 ∨ r = c.1 ∧ p ≤ c.2) → E "NoProgram" ["place", "role"] [.int (p : Nat), .int (r : Nat)] S) : (f_look_over [progD room l1 l2 roles hs] S).wp Q E := by
  have n1 := P.wh.n1
  have h1 := P.wh.h1
  refine run_wp ?_
  have bx : ∀ S, box (progD room l1 l2 roles hs) S = (progD room l1 l2 roles hs, S) := fun _ => rfl
  walk_at "vc"
  rw [bx]
  walk_at "vc"
  unfold m_look_over
  walk_at "nx"
  refine whole_prog_wp P.wh ?_
  walk_at "vc"
  walk_at "go"
  walk_at "nx"
  have lr : (roles.map D.tup).length = roles.length := List.length_map _
  refine counts_of_wp (by omega) (by omega) ?_
  rw [lr]
  walk_at "vc"
  walk_at "go"
  unfold l_look_over_1
  have hx : idxD (progD room l1 l2 roles hs) (.int 2) S = some (.tup (roles.map .tup)) := idxT_2
  walk_at "vc"
  rw [hx]
  walk_at "vc"
  refine for_wp (fun i ρ S' => S = S' ∧ (∀ c ∈ C, i ≤ c.1) ∧ ∃ x2 x3 x4 x5, ρ = [some (progD room l1 l2 roles hs), some (.tup ((cntI hs roles.length).map .int)), x2, x3, x4, x5]) ⟨rfl, fun c _ => Nat.zero_le _, _, _, _, _, rfl⟩ (fun _ _ _ _ => trivial) ?_ ?_
  · rintro i d ρ S' hi ⟨rfl, hC, x2, x3, x4, x5, rfl⟩
    obtain ⟨x, hx, rfl⟩ := enum_atD hi
    rw [List.getElem?_map] at hx
    cases hz : roles[i]? with
    | none => rw [hz] at hx; cases hx
    | some s =>
      rw [hz] at hx
      cases hx
      have hsr := List.mem_of_getElem? hz
      have hs60 := P.wh.st s hsr
      refine ⟨_, rfl, ?_⟩
      unfold b_look_over_1 l_look_over_2
      walk_at "vc"
      refine for_wp (fun j ρ S' => S = S' ∧ (∀ c ∈ C, i < c.1 ∨ i = c.1 ∧ j ≤ c.2) ∧ ∃ x4 x5, ρ = [some (progD room l1 l2 roles hs), some (.tup ((cntI hs roles.length).map .int)), some (.int (i : Nat)), some (.tup s), x4, x5]) ⟨rfl, fun c hc => by have := hC c hc; omega, _, _, rfl⟩ (fun _ _ _ _ => trivial) ?_ ?_
      · rintro j d ρ S' hj ⟨rfl, hC2, x4, x5, rfl⟩
        obtain ⟨d, hd, rfl⟩ := enum_atD hj
        refine ⟨_, rfl, ?_⟩
        unfold b_look_over_2
        refine try_expr ?_
        walk_at "vc"
        rw [len_tup]
        walk_at "vc"
        by_cases hm : (i, j) ∈ C
        · have hb := P.bad i j s d hz hd hm
          refine sof_wp (badL_cell d hb) (bad_sur (by omega) (by rw [cnt_len]; exact n1) d hb) ?_
          unfold XT
          have hx : isxOf x_NoStep "NoStep" = some true := by unfold isxOf x_NoStep; walk_at "ls"
          rw [hx]
          dsimp only
          rw [x_raise2]
          walk_at "vc"
          rw [if_pos ⟨rfl, rfl⟩]
          walk_at "vc"
          rw [closeL_same (by simp)]
          exact e i j hm fun c hc => hC2 c hc
        · refine stepd_wp (P.ok i j s d hz hd hm) fun c hc => ?_
          refine ⟨rfl, fun c hc => ?_, _, _, rfl⟩
          rcases hC2 c hc with h | ⟨h, h2⟩
          · exact .inl h
          · refine .inr ⟨h, ?_⟩
            rcases Nat.lt_or_ge j c.2 with h3 | h3
            · exact h3
            · exact absurd (show (i, j) ∈ C by have : c = (i, j) := Prod.ext h.symm (by show c.2 = j; omega); rw [← this]; exact hc) hm
      · rintro ρ S' ⟨rfl, hC2, x4, x5, rfl⟩
        refine ⟨rfl, fun c hc => ?_, _, _, _, _, rfl⟩
        rcases hC2 c hc with h | ⟨h, h2⟩
        · exact h
        · obtain ⟨s', k1, k2⟩ := P.at_ c hc
          rw [← h, hz] at k1
          cases k1
          rw [enumL_len] at h2
          omega
  · rintro ρ S' ⟨rfl, hC, x2, x3, x4, x5, rfl⟩
    rw [closeD_same]
    refine q ?_
    cases hCe : C with
    | nil => rfl
    | cons c r =>
      obtain ⟨s', k1, k2⟩ := P.at_ c (by rw [hCe]; exact List.mem_cons_self)
      have := hC c (by rw [hCe]; exact List.mem_cons_self)
      rw [enumL_len, List.length_map] at this
      have := (List.getElem?_eq_some_iff.mp k1).1
      omega
end Ev.K17
namespace Ev.K17
open PySem PySem.Spec PyProof.Rows L2 Ev
/-- a spot of the program -/
def Vd (roles : List (List D)) (c : Nat × Nat) : Prop := ∃ s, roles[c.1]? = some s ∧ c.2 < s.length
theorem badL_lo {n : Nat} : ∀ d ∈ badL, d.lo n = true := by
  intro d hd
  unfold badL at hd
  simp only [List.mem_cons, List.not_mem_nil, or_false] at hd
  rcases hd with rfl | rfl | rfl | rfl | rfl | rfl | rfl | rfl <;> simp
theorem Mix.dlo {room l1 l2 : Int} {roles : List (List D)} {hs : List Int} {C : List (Nat × Nat)} (P : Mix room l1 l2 roles hs C) {n : Nat} : ∀ s ∈ roles, ∀ d ∈ s, d.lo n = true := by
  intro s h1 d h2
  obtain ⟨r, hr⟩ := List.getElem?_of_mem h1
  obtain ⟨p, hp⟩ := List.getElem?_of_mem h2
  by_cases h : (r, p) ∈ C
  · exact badL_lo d (P.bad r p s d hr hp h)
  · exact pl_lo _ 3 _ (stp_pl (P.ok r p s d hr hp h))
theorem progD_lo {room l1 l2 : Int} {roles : List (List D)} {hs : List Int} {n : Nat} (h : ∀ s ∈ roles, ∀ d ∈ s, d.lo n = true) : (progD room l1 l2 roles hs).lo n = true := by
  have e1 : loL n (roles.map D.tup) = true := loL_of fun d hd => by
    obtain ⟨s, hs', rfl⟩ := List.mem_map.mp hd
    rw [lo_tup]
    exact loL_of (h s hs')
  have e2 : loL n (hs.map D.int) = true := loL_of fun d hd => by
    obtain ⟨z, _, rfl⟩ := List.mem_map.mp hd
    simp
  unfold progD
  simp [e1, e2]
theorem cutA {ds : List D} {k : Nat} {S : Store} : cutD (.tup ds) none (some (k : Int)) S = some (.tup (ds.take k)) := by
  show some (D.tup (cutL ds none (some (k : Int)))) = _
  rw [cutL_to]
theorem cutZ {ds : List D} {k : Nat} {S : Store} (h : k + 1 ≤ ds.length) : cutD (.tup ds) (some ((k : Int) + 1)) none S = some (.tup (ds.drop (k + 1))) := by
  show some (D.tup (cutL ds (some (((k + 1 : Nat)) : Int)) none)) = _
  rw [cutL_from h]
theorem set_cut {α : Type} {l : List α} {i : Nat} {x : α} (h : i < l.length) : l.take i ++ x :: l.drop (i + 1) = l.set i x := by
  rw [List.set_eq_take_append_cons_drop, if_pos h]
theorem lbad_wp {room l1 l2 : Int} {roles : List (List D)} {hs : List Int} {C : List (Nat × Nat)} {r p : Nat} {x : Int} {S : Store} {Q : D → Store → Prop} {E : XP} (P : Mix room l1 l2 roles hs C) (v : Vd roles (r, p))
    (q : ∀ roles', Mix room l1 l2 roles' hs ((r, p) :: C) → (∀ c, Vd roles c → Vd roles' c) → Q (progD room l1 l2 roles' hs) S) : (f__law_bad [progD room l1 l2 roles hs, .tup [.int (r : Nat), .int (p : Nat)], .int x] S).wp Q E := by
  obtain ⟨s, hr, hp⟩ := v
  dsimp only at hr hp
  have n1 := P.wh.n1
  have hs60 := P.wh.st s (List.mem_of_getElem? hr)
  have hrl := (List.getElem?_eq_some_iff.mp hr).1
  have hidx : ∀ T, idxD (progD room l1 l2 roles hs) (.int 2) T = some (.tup (roles.map .tup)) := fun T => idxT_2
  have hi0 : ∀ T, idxD (progD room l1 l2 roles hs) (.int 0) T = some (.int room) := fun T => idxT_0
  have hi1 : ∀ T, idxD (progD room l1 l2 roles hs) (.int 1) T = some (.tup [.int l1, .int l2]) := fun T => idxT_1
  have hi3 : ∀ T, idxD (progD room l1 l2 roles hs) (.int 3) T = some (.tup (hs.map .int)) := fun T => idxT_3
  have hro : (roles.map D.tup)[r]? = some (.tup s) := by rw [List.getElem?_map, hr]; rfl
  refine run_wp ?_
  have bx : ∀ S, box (progD room l1 l2 roles hs) S = (progD room l1 l2 roles hs, S) := fun _ => rfl
  walk_at "vc"
  rw [bx]
  walk_at "vc"
  unfold m__law_bad
  walk_at "nx"
  walk_at "go"
  walk_at "nx"
  rw [hidx]
  walk_at "vc"
  rw [idxT_of (by omega) (by rw [Int.toNat_natCast]; exact hro)]
  walk_at "vc"
  walk_at "go"
  obtain ⟨b, hb, hbm⟩ : ∃ b, badL[(x % 8).toNat]? = some b ∧ b ∈ badL := by
    have : (x % 8).toNat < badL.length := by show (x % 8).toNat < 8; omega
    exact ⟨_, List.getElem?_eq_getElem this, List.getElem_mem this⟩
  have hbb : ∀ T, box b T = (b, T) := fun T => by unfold box; rw [badL_cell b hbm]
  walk_at "nx"
  rw [cutA]
  walk_at "vc"
  walk_at "nm"
  rw [if_pos (show (0 : Int) < 8 by decide)]
  walk_at "vc"
  rw [idx_any (d := .ref S.length) (ds := badL) (by rw [seqA_ref, getT0]; rfl) (fun _ h => nomatch h) (Int.emod_nonneg _ (by decide)) hb]
  walk_at "vc"
  rw [hbb]
  walk_at "vc"
  rw [add_tup (sz_le (by simp; omega))]
  walk_at "vc"
  rw [cutZ (by omega)]
  walk_at "vc"
  rw [add_tup (sz_le (by simp; omega))]
  walk_at "vc"
  walk_at "go"
  walk_at "vc"
  rw [hi0]
  walk_at "vc"
  rw [hi1]
  walk_at "vc"
  rw [hidx]
  walk_at "vc"
  rw [cutA]
  walk_at "vc"
  rw [add_tup (sz_le (by simp; omega))]
  walk_at "vc"
  rw [hidx]
  walk_at "vc"
  rw [cutZ (by rw [List.length_map]; omega)]
  walk_at "vc"
  rw [add_tup (sz_le (by simp; omega))]
  walk_at "vc"
  rw [hi3]
  walk_at "vc"
  obtain ⟨s', hs'⟩ : ∃ s', s' = s.set p b := ⟨_, rfl⟩
  have es : s.take p ++ b :: s.drop (p + 1) = s' := by rw [hs', set_cut hp]
  have sl : s'.length = s.length := by rw [hs']; simp
  obtain ⟨roles', hr'⟩ : ∃ roles', roles' = roles.set r s' := ⟨_, rfl⟩
  have rl : roles'.length = roles.length := by rw [hr']; simp
  have er : (roles.map D.tup).take r ++ D.tup s' :: (roles.map D.tup).drop (r + 1) = roles'.map D.tup := by
    rw [hr', List.map_set, set_cut (by rw [List.length_map]; exact hrl)]
  have at1 : ∀ i, roles'[i]? = if i = r then some s' else roles[i]? := fun i => by
    rw [hr', List.getElem?_set]
    by_cases h : r = i
    · subst h; rw [if_pos rfl, if_pos rfl, if_pos hrl]
    · rw [if_neg h, if_neg (fun e => h e.symm)]
  have at2 : ∀ i, s'[i]? = if i = p then some b else s[i]? := fun i => by
    rw [hs', List.getElem?_set]
    by_cases h : p = i
    · subst h; rw [if_pos rfl, if_pos rfl, if_pos hp]
    · rw [if_neg h, if_neg (fun e => h e.symm)]
  have vd : ∀ c, Vd roles c → Vd roles' c := fun c ⟨t, h1, h2⟩ => by
    by_cases h : c.1 = r
    · refine ⟨s', by rw [at1, if_pos h], ?_⟩
      rw [h, hr] at h1; cases h1; omega
    · exact ⟨t, by rw [at1, if_neg h]; exact h1, h2⟩
  have P' : Mix room l1 l2 roles' hs ((r, p) :: C) := by
    refine ⟨⟨P.wh.r0, P.wh.r1, P.wh.a0, P.wh.a1, P.wh.b0, P.wh.b1, by rw [rl]; exact P.wh.n0, by rw [rl]; exact P.wh.n1, fun t ht => ?_, P.wh.h0, P.wh.h1, by rw [rl]; exact P.wh.hh, P.wh.hr⟩, fun i j t d h1 h2 h3 => ?_, fun i j t d h1 h2 h3 => ?_, fun c hc => ?_⟩
    · obtain ⟨i, hi⟩ := List.getElem?_of_mem ht
      rw [at1] at hi
      split at hi
      · cases hi; omega
      · exact P.wh.st t (List.mem_of_getElem? hi)
    · rw [rl]
      simp only [List.mem_cons, Prod.mk.injEq, not_or, not_and] at h3
      rw [at1] at h1
      split at h1
      · rename_i e
        cases h1
        rw [at2, if_neg (h3.1 e)] at h2
        rw [sl]
        subst e
        exact P.ok _ j s d hr h2 h3.2
      · exact P.ok i j t d h1 h2 h3.2
    · rw [at1] at h1
      split at h1
      · rename_i e
        cases h1
        rw [at2] at h2
        split at h2
        · cases h2; exact hbm
        · rename_i e2
          subst e
          exact P.bad _ j s d hr h2 (by
            rcases List.mem_cons.mp h3 with h | h
            · exact absurd (Prod.mk.inj h).2 e2
            · exact h)
      · rename_i e
        exact P.bad i j t d h1 h2 (by
          rcases List.mem_cons.mp h3 with h | h
          · exact absurd (Prod.mk.inj h).1 e
          · exact h)
    · rcases List.mem_cons.mp hc with rfl | hc
      · exact vd _ ⟨s, hr, hp⟩
      · exact vd _ (P.at_ c hc)
  try rw [es]
  try rw [er]
  exact closeR_app (progD_lo P'.dlo) (q roles' P' vd)
end Ev.K17
namespace Ev.K17
open PySem PySem.Spec PyProof.Rows L2 Ev
theorem spots_wp {room l1 l2 : Int} {roles : List (List D)} {hs : List Int} {S : Store} {Q : D → Store → Prop} {E : XP} (n1 : roles.length ≤ 6) (n2 : ∀ s ∈ roles, s.length ≤ 60) (q : ∀ C0 : List (Nat × Nat), (∀ c ∈ C0, Vd roles c) → C0.length ≤ 1000 → Q (.lst (C0.map spD)) S) : (f__law_spots [progD room l1 l2 roles hs] S).wp Q E := by
  have hidx : ∀ T, idxD (progD room l1 l2 roles hs) (.int 2) T = some (.tup (roles.map .tup)) := fun T => idxT_2
  refine run_wp ?_
  have bx : ∀ S, box (progD room l1 l2 roles hs) S = (progD room l1 l2 roles hs, S) := fun _ => rfl
  walk_at "vc"
  rw [bx]
  walk_at "vc"
  generalize hpg : progD room l1 l2 roles hs = pg at hidx
  unfold m__law_spots
  walk_at "st"
  unfold l__law_spots_1
  walk_at "nx"
  rw [hidx]
  walk_at "vc"
  rw [len_tup, List.length_map]
  walk_at "vc"
  rw [if_pos (show In62 (roles.length : Nat) from ⟨by omega, by omega⟩)]
  walk_at "vc"
  refine for_wp (fun i ρ U => ∃ (C : List (Nat × Nat)) (x2 x3 : Option D), (∀ c ∈ C, Vd roles c) ∧ C.length ≤ 60 * i ∧ ρ = [some pg, some (.ref S.length), x2, x3] ∧ U = S ++ [.lst (C.map spD)])
    ⟨[], none, none, (fun _ h => nomatch h), Nat.le_refl _, rfl, rfl⟩ (fun _ _ _ _ => trivial) ?_ ?_
  · rintro i d ρ U hi ⟨C, x2, x3, hC, hCl, rfl, rfl⟩
    obtain ⟨rfl, hlt⟩ := range_at hi
    rw [Int.zero_add]
    have hir : i < roles.length := by omega
    have hr : roles[i]? = some roles[i] := List.getElem?_eq_getElem hir
    have hro : (roles.map D.tup)[i]? = some (.tup roles[i]) := by rw [List.getElem?_map, hr]; rfl
    have h60 := n2 _ (List.mem_of_getElem? hr)
    refine ⟨_, rfl, ?_⟩
    unfold b__law_spots_1 l__law_spots_2
    walk_at "vc"
    rw [hidx]
    walk_at "vc"
    rw [idxT_of (by omega) (by rw [Int.toNat_natCast]; exact hro)]
    walk_at "vc"
    rw [len_tup]
    walk_at "vc"
    rw [if_pos (show In62 (roles[i].length : Nat) from ⟨by omega, by omega⟩)]
    walk_at "vc"
    refine for_wp (fun j ρ U => ∃ (C' : List (Nat × Nat)) (x3 : Option D), (∀ c ∈ C', Vd roles c) ∧ C'.length ≤ C.length + j ∧ ρ = [some pg, some (.ref S.length), some (.int i), x3] ∧ U = S ++ [.lst (C'.map spD)])
      ⟨C, x3, hC, Nat.le_refl _, rfl, rfl⟩ (fun _ _ _ _ => trivial) ?_ ?_
    · rintro j d ρ U hj ⟨C', x3, hC', hCl', rfl, rfl⟩
      obtain ⟨rfl, hlt'⟩ := range_at hj
      rw [Int.zero_add]
      refine ⟨_, rfl, ?_⟩
      unfold b__law_spots_2
      walk_at "vc"
      rw [if_pos (sz_lt (by rw [List.length_map]; omega))]
      walk_at "vc"
      refine ⟨C' ++ [(i, j)], _, fun c hc => ?_, by simp; omega, rfl, ?_⟩
      · rcases List.mem_append.mp hc with h | h
        · exact hC' c h
        · rw [List.mem_singleton.mp h]; exact ⟨_, hr, by show j < _; omega⟩
      · rw [List.map_append]; rfl
    · rintro ρ U ⟨C', x3, hC', hCl', rfl, rfl⟩
      refine ⟨C', _, _, hC', ?_, rfl, rfl⟩
      rw [range_len] at hCl'
      omega
  · rintro ρ U ⟨C, x2, x3, hC, hCl, rfl, rfl⟩
    rw [range_len] at hCl
    walk_at "go"
    walk_at "vc"
    refine closeR_eq (r := .lst (C.map spD)) (S3 := S) ?_ (q C hC (by omega))
    refine closeD_new (k := 0) (T := [.lst (C.map spD)]) (loL_of fun d hd => ?_) rfl
    obtain ⟨c, _, rfl⟩ := List.mem_map.mp hd
    unfold spD
    simp
end Ev.K17
namespace Ev.K17
open PySem PySem.Spec PyProof.Rows L2 Ev
theorem Mix.cong {room l1 l2 : Int} {roles : List (List D)} {hs : List Int} {C C' : List (Nat × Nat)} (P : Mix room l1 l2 roles hs C) (h : ∀ c, c ∈ C ↔ c ∈ C') : Mix room l1 l2 roles hs C' :=
  ⟨P.wh, fun r p s d h1 h2 h3 => P.ok r p s d h1 h2 fun e => h3 ((h _).mp e), fun r p s d h1 h2 h3 => P.bad r p s d h1 h2 ((h _).mpr h3), fun c hc => P.at_ c ((h c).mpr hc)⟩
theorem x_xf {ρ : Env'} {S : Store} {i : Nat} {a x : Addr} {f : Str} {b : Bool} {d : D} {ks : List Str} {ds : List D} (h : ρ[i]? = some (some (.exn a (some x) ks ds))) (hb : b = true) (hl : lookO f ks ds = some d) : mXf i a (some x) b f ρ S = .ok d S := by
  subst hb; exact xf_at h hl
theorem sps_nil {C : List (Nat × Nat)} {S : Store} {d e : D} (h1 : seqL S d = some (C.map spD)) (h2 : seqL S e = some []) : eqD S d e = some (decide (C = [])) := by
  rw [eqD_lsts (nb := false) (n := 2) (by decide) h1 h2 (plL_mem.mpr fun d hd => by
    obtain ⟨c, _, rfl⟩ := List.mem_map.mp hd
    exact spD_pl) plL_nil]
  congr 1
  cases C with
  | nil => rw [List.map_nil, eqvL_refl]; rfl
  | cons c C => rw [decide_eq_false (by simp), List.map_cons, toPL_cons, toPL_nil]; unfold PyData.eqvAll; rfl
theorem good : Good f_law := by
  refine good_wp fun ns hl _ => ?_
  unfold m_law
  walk_at "vc"
  walk_at "nx"
  refine prog_wp fun room l1 l2 rs hs P => ?_
  have c0 : ∀ S, f__law_cell_at [.fro (ns.map D.int), .int 0] S = .ok (.int (ns[0]?.getD 0)) S := fun S => cell_at_eq (k := 0)
  have bx : ∀ rs S, box (progD room l1 l2 rs hs) S = (progD room l1 l2 rs hs, S) := fun _ _ => rfl
  rw [bx]
  walk_at "go"
  walk_at "nx"
  refine spots_wp P.wh.n1 P.wh.st fun C0 hC0 hC0l => ?_
  walk_at "vc"
  walk_at "go"
  generalize ns[0]?.getD 0 = x0 at c0
  walk_at "nx"
  rw [c0]
  walk_at "vc"
  rw [if_pos (fdiv_ok (show (0 : Int) < 4 by decide) (by decide))]
  walk_at "vc"
  walk_at "go"
  walk_at "st"
  unfold l_law_1
  walk_at "nx"
  rw [c0]
  walk_at "vc"
  walk_at "nm"
  have m0 := Int.emod_nonneg x0 (b := 4) (by decide)
  have m1 := Int.emod_lt_of_pos x0 (b := 4) (by decide)
  rw [if_pos (show In62 (x0 % 4) from ⟨by omega, by omega⟩)]
  walk_at "vc"
  have step3 : ∀ {a b c : Cell} {S' : Store}, Di 1 [a, b, c] S' → ∃ b', S' = [a, b', c] := fun {a b c S'} h => by
    rcases h with rfl | ⟨ns, rfl⟩
    · exact ⟨b, rfl⟩
    · exact ⟨_, rfl⟩
  have P0 : Mix room l1 l2 rs hs [] := ⟨P.wh, fun r p s d h1 h2 _ => P.ok s (List.mem_of_getElem? h1) d (List.mem_of_getElem? h2), (fun _ _ _ _ _ _ h => nomatch h), (fun _ h => nomatch h)⟩
  refine for_wp (fun i ρ U => ∃ (roles : List (List D)) (C : List (Nat × Nat)) (n : Nat) (b : Cell) (x5 x6 : Option D), Mix room l1 l2 roles hs C ∧ (∀ c ∈ C0, Vd roles c) ∧ n ≤ 2 * i ∧ C.length ≤ i ∧ Stt 1 n U ∧
      ρ = [some (.fro (ns.map .int)), some (progD room l1 l2 roles hs), some (.ref 0), some (.ref 1), some (.ref 2), x5, x6, none, none] ∧ U = [.lst (C0.map spD), b, .lst (C.map spD)])
    ⟨rs, [], 0, _, none, none, P0, hC0, Nat.le_refl _, Nat.le_refl _, ⟨[x0 / 4], rfl, .inl ⟨_, rfl⟩⟩, rfl, rfl⟩ (fun _ _ _ _ => trivial) ?_ ?_
  · rintro i d ρ U hi ⟨roles, C, n, b, x5, x6, PM, hV, hn, hCl, st, rfl, rfl⟩
    obtain ⟨rfl, hi2⟩ := range_at hi
    refine ⟨_, rfl, ?_⟩
    unfold b_law_1
    walk_at "vc"
    rw [sps_nil (C := C0) (by rw [seqL_ref]; rfl) seqL_lst]
    walk_at "vc"
    by_cases h0 : C0 = []
    · rw [decide_eq_true h0]
      walk_at "vc"
      exact ⟨roles, C, n, b, _, x6, PM, hV, by omega, by omega, st, rfl, rfl⟩
    · rw [decide_eq_false h0]
      walk_at "vc"
      have hpos : 0 < C0.length := List.length_pos_iff.mpr h0
      walk_at "nx"
      rw [blt_lenA (d := .ref 0) (ds := C0.map spD) (by rw [seqA_ref]; rfl) (fun _ h => nomatch h), List.length_map]
      walk_at "vc"
      refine digit_wp st (by omega) (by omega) (by omega) fun d1 S1 g1 st1 d10 d11 => ?_
      obtain ⟨b1, rfl⟩ := step3 g1
      obtain ⟨m, rfl⟩ := Int.eq_ofNat_of_zero_le d10
      have hcm : C0[m]? = some C0[m] := List.getElem?_eq_getElem (by omega)
      have hmem := List.mem_of_getElem? hcm
      generalize C0[m] = c at hcm hmem
      obtain ⟨r, p⟩ := c
      rw [idx_any (d := .ref 0) (ds := C0.map spD) (by rw [seqA_ref]; rfl) (fun _ h => nomatch h) (by omega) (by rw [Int.toNat_natCast, List.getElem?_map, hcm]; rfl)]
      have bs : ∀ S, box (spD (r, p)) S = (spD (r, p), S) := fun _ => rfl
      walk_at "vc"
      rw [bs]
      walk_at "go"
      walk_at "nx"
      rw [bs]
      walk_at "vc"
      rw [if_pos (sz_lt (by rw [List.length_map]; omega))]
      walk_at "vc"
      walk_at "go"
      walk_at "vc"
      have st2 : Stt 1 (n + 1) [Cell.lst (C0.map spD), b1, Cell.lst (C.map spD ++ [spD (r, p)])] := by
        obtain ⟨z, e, h⟩ := st1
        exact ⟨z, e, h⟩
      refine digit_wp st2 (by omega) (by decide) (by decide) fun d2 S2 g2 st3 d20 d21 => ?_
      obtain ⟨b2, rfl⟩ := step3 g2
      refine lbad_wp PM (hV _ hmem) fun roles' P' vd => ?_
      rw [bx]
      refine ⟨roles', C ++ [(r, p)], n + 2, b2, _, _, P'.cong fun c => by simp [or_comm], fun c hc => vd c (hV c hc), by omega, by simp; omega, st3, rfl, ?_⟩
      rw [List.map_append]; rfl
  · rintro ρ U ⟨roles, C, n, b, x5, x6, PM, hV, hn, hCl, st, rfl, rfl⟩
    walk_at "go"
    walk_at "st"
    have hbx : ∀ x7 x8, [some (.fro (ns.map .int)), some (progD room l1 l2 roles hs), some (.ref 0), some (.ref 1), some (.ref 2), x5, x6, x7, x8] = ([some (.fro (ns.map .int)), some (progD room l1 l2 roles hs), some (.ref 0), some (.ref 1), some (.ref 2), x5, x6, x7, x8] : Env') := fun _ _ => rfl
    refine sw_seq fun N hN => ?_
    refine tryAs_expr ?_
    walk_at "vc"
    refine look_first PM (fun hC => ?_) (fun r p hm hf => ?_)
    · refine hN _ _ ?_
      walk_at "nx"
      rw [sps_nil (C := C) (by rw [seqL_ref]; rfl) seqL_lst, decide_eq_true hC]
      walk_at "vc"
    · unfold XTa
      have hx : isxOf x_NoProgram "NoProgram" = some true := by unfold isxOf x_NoProgram; walk_at "ls"
      rw [hx]
      dsimp only
      have f1 : lookO "role" ["place", "role"] [D.int (p : Nat), .int (r : Nat)] = some (.int (r : Nat)) := by
        unfold lookO; rw [if_neg (by decide +kernel)]; unfold lookO; rw [if_pos rfl]
      have f2 : lookO "place" ["place", "role"] [D.int (p : Nat), .int (r : Nat)] = some (.int (p : Nat)) := by
        unfold lookO; rw [if_pos rfl]
      refine asOutF_wp (r := .next [some (.fro (ns.map .int)), some (progD room l1 l2 roles hs), some (.ref 0), some (.ref 1), some (.ref 2), x5, x6, some (spD (r, p)), none] [.lst (C0.map spD), b, .lst (C.map spD)]) (fun a dx hdx => ?_) ?_
      · obtain ⟨x, rfl⟩ : ∃ x, dx = some x := by
          cases dx with
          | none => cases hdx rfl
          | some x => exact ⟨x, rfl⟩
        have hr : ∀ x7 S, mXf 8 a (some x) (inB xf_role "NoProgram") "role" [some (.fro (ns.map .int)), some (progD room l1 l2 roles hs), some (.ref 0), some (.ref 1), some (.ref 2), x5, x6, x7, some (.exn a (some x) ["place", "role"] [.int (p : Nat), .int (r : Nat)])] S = .ok (.int (r : Nat)) S := fun x7 S =>
          x_xf (ks := ["place", "role"]) (ds := [.int (p : Nat), .int (r : Nat)]) rfl (by decide +kernel) f1
        have hp : ∀ x7 S, mXf 8 a (some x) (inB xf_place "NoProgram") "place" [some (.fro (ns.map .int)), some (progD room l1 l2 roles hs), some (.ref 0), some (.ref 1), some (.ref 2), x5, x6, x7, some (.exn a (some x) ["place", "role"] [.int (p : Nat), .int (r : Nat)])] S = .ok (.int (p : Nat)) S := fun x7 S =>
          x_xf (ks := ["place", "role"]) (ds := [.int (p : Nat), .int (r : Nat)]) rfl (by decide +kernel) f2
        show unb 8 ((sAsg _ _) [some (.fro (ns.map .int)), some (progD room l1 l2 roles hs), some (.ref 0), some (.ref 1), some (.ref 2), x5, x6, some .non, some (.exn a (some x) ["place", "role"] [.int (p : Nat), .int (r : Nat)])] [.lst (C0.map spD), b, .lst (C.map spD)]) = _
        walk_at "ev"
        simp only [hr, hp, bind_ok]
        walk_at "vc"
        rfl
      · walk_at "vc"
        refine hN _ _ ?_
        walk_at "nx"
        have hne : C ≠ [] := fun e => by rw [e] at hm; cases hm
        rw [sps_nil (C := C) (by rw [seqL_ref]; rfl) seqL_lst, decide_eq_false hne]
        walk_at "vc"
        walk_at "go"
        walk_at "vc"
        rw [min_sp hm hf (by rfl)]
        walk_at "vc"
        rw [eqD_same (nb := false) (n := 1) (by decide) spD_pl]
        walk_at "vc"
end Ev.K17
end
set_option maxHeartbeats 2000000
namespace Ev.K17
open PySem PySem.Spec PyProof.Rows L2 Ev
structure Txt (K : PySem.W.Frag) (w : World) (mg : Str → Option Value) : Prop where
  z : True
  b_all : mg "all" = none
  b_bool : mg "bool" = none
  b_enumerate : mg "enumerate" = none
  b_int : mg "int" = none
  b_isinstance : mg "isinstance" = none
  b_len : mg "len" = none
  b_list : mg "list" = none
  b_min : mg "min" = none
  b_range : mg "range" = none
  b_set : mg "set" = none
  b_sorted : mg "sorted" = none
  b_str : mg "str" = none
  b_tuple : mg "tuple" = none
  b_zip : mg "zip" = none
  g_FORMS : CDT K w mg "FORMS" tb_FORMS
  g_MOST_HANDS : CnT mg "MOST_HANDS" (.int 6)
  g_MOST_LEFT : CnT mg "MOST_LEFT" (.int 5)
  g_MOST_ROLES : CnT mg "MOST_ROLES" (.int 6)
  g_MOST_ROOM : CnT mg "MOST_ROOM" (.int 10)
  g_MOST_STEPS : CnT mg "MOST_STEPS" (.int 60)
  e_NoStep : ExcT K mg "NoStep"
  h_NoProgram : HdT K mg "NoProgram" x_NoProgram
  h_NoStep : HdT K mg "NoStep" x_NoStep
  xf_place : XfT K mg "place" xf_place
  xf_role : XfT K mg "role" xf_role
  f_form : FAll K mg "form" ["Send", "Take", "Bell", "Put", "Copy", "Raise", "Sum", "Choose", "Go", "Less", "Before", "Me", "Only", "Pick", "Alike", "All", "Empty", "Join", "Out", "Many"]

def n__law_cell_at : List Str := ["_law_script", "_law_k"]
def n__law_digit : List Str := ["_law_state", "_law_base", "_law_found", "_law_number_here"]
def n__law_hands : List Str := ["_law_state", "_law_amount", "_law_k"]
def n__law_on_names : List Str := ["_law_state", "_law_word", "_law_length", "_law_counts", "_law_one", "_law_alone", "_law_group", "_law_role"]
def n__law_number : List Str := ["_law_state"]
def n__law_lines : List Str := ["_law_state", "_law_length", "_law_kinds", "_law_lines_here", "_law_k", "_law_kind", "_law_number_here", "_law_name", "_law_sender"]
def n__law_step : List Str := ["_law_state", "_law_length", "_law_counts", "_law_words", "_law_word", "_law_one"]
def n__law_program : List Str := ["_law_script", "_law_state", "_law_amount", "_law_room", "_law_spare", "_law_hands_here", "_law_counts", "_law_owners", "_law_roles", "_law_role", "_law_length", "_law_steps", "_law_k", "_law_cell", "_law_owner", "_law_hand"]
def n__law_spots : List Str := ["_law_program_here", "_law_found", "_law_role", "_law_place"]
def n__law_bad : List Str := ["_law_program_here", "_law_spot", "_law_cell", "_law_some", "_law_steps"]
def n_is_tuple_of : List Str := ["thing", "low", "high"]
def n_is_whole : List Str := ["thing"]
def n_is_from : List Str := ["thing", "low", "high"]
def n_is_rising : List Str := ["hands", "k"]
def n_is_whole_program : List Str := ["program", "room", "left", "roles", "hands", "number", "steps", "role"]
def n_hands_of : List Str := ["program", "role", "hand", "own"]
def n_counts_of : List Str := ["program", "role"]
def n_fits_line : List Str := ["line", "length", "box"]
def n_fits_lines : List Str := ["lines", "length", "line"]
def n_fits : List Str := ["sort", "thing", "length", "counts", "bounds"]
def n_sure : List Str := ["told", "length", "counts", "sorts", "sort", "thing"]
def n_Step___init__ : List Str := ["self", "form"]
def n_number_step : List Str := ["told", "word"]
def n_name_step : List Str := ["told", "word"]
def n_letter_step : List Str := ["told"]
def n_step_of : List Str := ["told", "length", "counts", "step"]
def n_look_over : List Str := ["program", "counts", "role", "steps", "place", "told"]
def n_law : List Str := ["_law_script", "_law_program_here", "_law_spots_here", "_law_state", "_law_chosen", "_law_k", "_law_spot", "_law_found", "e"]
section
variable {P : Program} {w : World} {K : PySem.W.Frag} {mg : Str → Option Value} {base : Heap}
def n_NoProgram___init__ : List Str := ["self", "role", "place"]
theorem s_NoProgram___init__ : FnScope n_NoProgram___init__ ["self", "role", "place"] (defScope st_NoProgram___init__) := ⟨rfl, rfl, rfl, by decide +kernel, rfl, by decide +kernel, by decide +kernel⟩
theorem s__law_cell_at : FnScope n__law_cell_at ["_law_script", "_law_k"] (defScope st__law_cell_at) := ⟨rfl, rfl, rfl, by decide +kernel, rfl, by decide +kernel, by decide +kernel⟩
theorem ok__law_cell_at {qual : Str} {f : Addr} {fd : FuncData} (F : Fun K "_law_cell_at" qual st__law_cell_at f fd) (T : Txt K w mg)  : FnOk P w K mg base (L2N.CX P w) 1 f fd ["_law_script", "_law_k"] (spOf K mg 2 f__law_cell_at) := by
  refine fn_ok (k := 0) F s__law_cell_at fun cdv A outer s H E hr => ?_
  have hu := hr.units
  have sN := s__law_cell_at.nd
  have tk : L2N.Takes (cxOf (L2N.CX P w) P w K mg base n__law_cell_at qual (defScope st__law_cell_at) f cdv A outer s H E) (fun cls dx _ H => E cls dx H) := L2N.takes_of rfl rfl rfl rfl
  have pw : PassesOwn (model P w) (A.deeper (envOfC qual (defScope st__law_cell_at) s.heap.objs.size f cdv)) (cxOf (L2N.CX P w) P w K mg base n__law_cell_at qual (defScope st__law_cell_at) f cdv A outer s H E).env (cxOf (L2N.CX P w) P w K mg base n__law_cell_at qual (defScope st__law_cell_at) f cdv A outer s H E).xe := passes_of rfl
  exact (evs_cons (evs_if (evt_cmp hu (ev_var (i := 1) rfl (vis_of rfl) rfl rfl) (ev_blt rfl T.b_len (blt_boot .len) (blt_kind .len) (blt_ok rfl .len) (eva_cons (ev_var (i := 0) rfl (vis_of rfl) rfl rfl) eva_nil rfl) rfl (blt_name .len).1 (blt_name .len).2) rfl)
  (evs_one (evs_ret (ev_idx (ev_var (i := 0) rfl (vis_of rfl) rfl rfl) (ev_var (i := 1) rfl (vis_of rfl) rfl rfl) rfl)))
  evs_nil)
  (evs_one (evs_ret ev_int)))
theorem s__law_digit : FnScope n__law_digit ["_law_state", "_law_base"] (defScope st__law_digit) := ⟨rfl, rfl, rfl, by decide +kernel, rfl, by decide +kernel, by decide +kernel⟩
theorem ok__law_digit {qual : Str} {f : Addr} {fd : FuncData} (F : Fun K "_law_digit" qual st__law_digit f fd) (T : Txt K w mg)  : FnOk P w K mg base (L2N.CX P w) 1 f fd ["_law_state", "_law_base"] (spOf K mg 2 f__law_digit) := by
  refine fn_ok (k := 0) F s__law_digit fun cdv A outer s H E hr => ?_
  have hu := hr.units
  have sN := s__law_digit.nd
  have tk : L2N.Takes (cxOf (L2N.CX P w) P w K mg base n__law_digit qual (defScope st__law_digit) f cdv A outer s H E) (fun cls dx _ H => E cls dx H) := L2N.takes_of rfl rfl rfl rfl
  have pw : PassesOwn (model P w) (A.deeper (envOfC qual (defScope st__law_digit) s.heap.objs.size f cdv)) (cxOf (L2N.CX P w) P w K mg base n__law_digit qual (defScope st__law_digit) f cdv A outer s H E).env (cxOf (L2N.CX P w) P w K mg base n__law_digit qual (defScope st__law_digit) f cdv A outer s H E).xe := passes_of rfl
  exact (evs_cons (evs_if (evt_cmp hu (ev_blt rfl T.b_len (blt_boot .len) (blt_kind .len) (blt_ok rfl .len) (eva_cons (ev_var (i := 0) rfl (vis_of rfl) rfl rfl) eva_nil rfl) rfl (blt_name .len).1 (blt_name .len).2) ev_int rfl)
  (evs_one (evs_expr (ev_ext (ev_var (i := 0) rfl (vis_of rfl) rfl rfl) (ev_lst (eva_cons (ev_bin (ev_idx (ev_var (i := 0) rfl (vis_of rfl) rfl rfl) ev_int rfl) ev_int) (eva_cons ev_int eva_nil rfl) rfl)) rfl rfl rfl) rfl))
  evs_nil)
  (evs_cons (evs_if (evt_cmp hu (ev_idx (ev_var (i := 0) rfl (vis_of rfl) rfl rfl) ev_int rfl) ev_int rfl)
  (evs_cons (evs_set (i := 2) sN rfl (loc_of rfl) (.inl rfl) (ev_bin (ev_idx (ev_var (i := 0) rfl (vis_of rfl) rfl rfl) ev_int rfl) (ev_var (i := 1) rfl (vis_of rfl) rfl rfl)) rfl)
  (evs_cons (evs_sub1 (ev_bin (ev_idx (ev_var (i := 0) rfl (vis_of rfl) rfl rfl) ev_int rfl) (ev_var (i := 1) rfl (vis_of rfl) rfl rfl)) (ev_var (i := 0) rfl (vis_of rfl) rfl rfl) ev_int rfl rfl (fun _ => rfl))
  (evs_one (evs_ret (ev_var (i := 2) rfl (vis_of rfl) rfl rfl)))))
  evs_nil)
  (evs_cons (evs_sub1 (ev_bin (ev_idx (ev_var (i := 0) rfl (vis_of rfl) rfl rfl) ev_int rfl) ev_int) (ev_var (i := 0) rfl (vis_of rfl) rfl rfl) ev_int rfl rfl (fun _ => rfl))
  (evs_cons (evs_set (i := 3) sN rfl (loc_of rfl) (.inl rfl) (ev_bin (ev_bin (ev_bin (ev_bin (ev_idx (ev_var (i := 0) rfl (vis_of rfl) rfl rfl) ev_int rfl) (ev_bin ev_int (ev_idx (ev_var (i := 0) rfl (vis_of rfl) rfl rfl) ev_int rfl))) ev_int) ev_int) ev_int) rfl)
  (evs_cons (evs_set (i := 3) sN rfl (loc_of rfl) (.inl rfl) (ev_bin (ev_bin (ev_var (i := 3) rfl (vis_of rfl) rfl rfl) (ev_bin (ev_bin (ev_var (i := 3) rfl (vis_of rfl) rfl rfl) ev_int) ev_int)) ev_int) rfl)
  (evs_one (evs_ret (ev_bin (ev_bin (ev_bin (ev_var (i := 3) rfl (vis_of rfl) rfl rfl) (ev_bin (ev_bin (ev_var (i := 3) rfl (vis_of rfl) rfl rfl) ev_int) ev_int)) ev_int) (ev_var (i := 1) rfl (vis_of rfl) rfl rfl)))))))))
theorem s__law_hands : FnScope n__law_hands ["_law_state", "_law_amount"] (defScope st__law_hands) := ⟨rfl, rfl, rfl, by decide +kernel, rfl, by decide +kernel, by decide +kernel⟩
theorem ok__law_hands {qual : Str} {f : Addr} {fd : FuncData} (F : Fun K "_law_hands" qual st__law_hands f fd) (T : Txt K w mg) (c__law_digit : Cal P w K mg base "_law_digit" 2 f__law_digit 1) : FnOk P w K mg base (L2N.CX P w) 2 f fd ["_law_state", "_law_amount"] (spOf K mg 2 f__law_hands) := by
  refine fn_ok (k := 1) F s__law_hands fun cdv A outer s H E hr => ?_
  have hu := hr.units
  have sN := s__law_hands.nd
  have tk : L2N.Takes (cxOf (L2N.CX P w) P w K mg base n__law_hands qual (defScope st__law_hands) f cdv A outer s H E) (fun cls dx _ H => E cls dx H) := L2N.takes_of rfl rfl rfl rfl
  have pw : PassesOwn (model P w) (A.deeper (envOfC qual (defScope st__law_hands) s.heap.objs.size f cdv)) (cxOf (L2N.CX P w) P w K mg base n__law_hands qual (defScope st__law_hands) f cdv A outer s H E).env (cxOf (L2N.CX P w) P w K mg base n__law_hands qual (defScope st__law_hands) f cdv A outer s H E).xe := passes_of rfl
  exact (evs_one (evs_ret (ev_blt rfl T.b_tuple (blt_boot .tuple) (blt_kind .tuple) (blt_ok rfl .tuple) (eva_cons (ev_blt rfl T.b_sorted (blt_boot .sorted) (blt_kind .sorted) (blt_ok rfl .sorted) (eva_cons (ev_comp (own := [("_law_k", 2)]) rfl sN (evi_range1 rfl T.b_range (ev_bin ev_int (ev_call tk rfl (c__law_digit.ok (hr.mono (by decide))) (eva_cons (ev_var (i := 0) rfl (vis_of rfl) rfl rfl) (eva_cons ev_int eva_nil rfl) rfl) rfl rfl)) rfl) (blkOk_by (show blkC n__law_hands (defScope st__law_hands) _ _ = true by decide +kernel)) (fun s H C cl fp => (evg_name (i := 2) sN rfl (loc_of rfl) (by first | exact .inr rfl | exact .inl rfl))) (fun s H C cl fp => evtf_nil) (fun s H C cl fp => (ev_call takes0 rfl (c__law_digit.ok (hr.mono (by decide))) (eva_cons (ev_var (i := 0) rfl (vis_of rfl) rfl rfl) (eva_cons (ev_var (i := 1) rfl (vis_of rfl) rfl rfl) eva_nil rfl) rfl) rfl rfl)) rfl (by decide)) eva_nil rfl) rfl (blt_name .sorted).1 (blt_name .sorted).2) eva_nil rfl) rfl (blt_name .tuple).1 (blt_name .tuple).2)))
theorem s__law_on_names : FnScope n__law_on_names ["_law_state", "_law_word", "_law_length", "_law_counts"] (defScope st__law_on_names) := ⟨rfl, rfl, rfl, by decide +kernel, rfl, by decide +kernel, by decide +kernel⟩
theorem ok__law_on_names {qual : Str} {f : Addr} {fd : FuncData} (F : Fun K "_law_on_names" qual st__law_on_names f fd) (T : Txt K w mg) (c__law_digit : Cal P w K mg base "_law_digit" 2 f__law_digit 1) : FnOk P w K mg base (L2N.CX P w) 2 f fd ["_law_state", "_law_word", "_law_length", "_law_counts"] (spOf K mg 4 f__law_on_names) := by
  refine fn_ok (k := 1) F s__law_on_names fun cdv A outer s H E hr => ?_
  have hu := hr.units
  have sN := s__law_on_names.nd
  have tk : L2N.Takes (cxOf (L2N.CX P w) P w K mg base n__law_on_names qual (defScope st__law_on_names) f cdv A outer s H E) (fun cls dx _ H => E cls dx H) := L2N.takes_of rfl rfl rfl rfl
  have pw : PassesOwn (model P w) (A.deeper (envOfC qual (defScope st__law_on_names) s.heap.objs.size f cdv)) (cxOf (L2N.CX P w) P w K mg base n__law_on_names qual (defScope st__law_on_names) f cdv A outer s H E).env (cxOf (L2N.CX P w) P w K mg base n__law_on_names qual (defScope st__law_on_names) f cdv A outer s H E).xe := passes_of rfl
  exact (evs_cons (evs_set (i := 4) sN rfl (loc_of rfl) (.inl rfl) (ev_call tk rfl (c__law_digit.ok (hr.mono (by decide))) (eva_cons (ev_var (i := 0) rfl (vis_of rfl) rfl rfl) (eva_cons ev_int eva_nil rfl) rfl) rfl rfl) rfl)
  (evs_cons (evs_if (evt_cmp hu (ev_var (i := 1) rfl (vis_of rfl) rfl rfl) ev_str rfl)
  (evs_one (evs_ret (ev_tup (eva_cons ev_str (eva_cons (ev_var (i := 4) rfl (vis_of rfl) rfl rfl) eva_nil rfl) rfl))))
  evs_nil)
  (evs_cons (evs_if (evt_cmp hu (ev_var (i := 1) rfl (vis_of rfl) rfl rfl) ev_str rfl)
  (evs_cons (evs_setComp (own := [("_law_role", 7)]) (i := 5) rfl sN rfl rfl rfl (evi_range1 rfl T.b_range (ev_blt rfl T.b_len (blt_boot .len) (blt_kind .len) (blt_ok rfl .len) (eva_cons (ev_var (i := 3) rfl (vis_of rfl) rfl rfl) eva_nil rfl) rfl (blt_name .len).1 (blt_name .len).2) rfl) (blkOk_by (show blkC n__law_on_names (defScope st__law_on_names) _ _ = true by decide +kernel)) (fun s H C cl fp => (evg_name (i := 7) sN rfl (loc_of rfl) (by first | exact .inr rfl | exact .inl rfl))) (fun s H C cl fp => (evtf_one (evt_cmp hu (ev_idx (ev_var (i := 3) rfl (vis_of rfl) rfl rfl) (ev_var (i := 7) rfl (vis_of rfl) rfl rfl) rfl) ev_int rfl))) (fun s H C cl fp => (ev_var (i := 7) rfl (vis_of rfl) rfl rfl)) rfl (by decide))
  (evs_cons (evs_if (evt_cmp hu (ev_var (i := 5) rfl (vis_of rfl) rfl rfl) (ev_lst eva_nil) rfl)
  (evs_one (evs_ret (ev_tup (eva_cons ev_str (eva_cons (ev_var (i := 4) rfl (vis_of rfl) rfl rfl) eva_nil rfl) rfl))))
  evs_nil)
  (evs_one (evs_ret (ev_tup (eva_cons ev_str (eva_cons (ev_var (i := 4) rfl (vis_of rfl) rfl rfl) (eva_cons (ev_idx (ev_var (i := 5) rfl (vis_of rfl) rfl rfl) (ev_call tk rfl (c__law_digit.ok (hr.mono (by decide))) (eva_cons (ev_var (i := 0) rfl (vis_of rfl) rfl rfl) (eva_cons (ev_blt rfl T.b_len (blt_boot .len) (blt_kind .len) (blt_ok rfl .len) (eva_cons (ev_var (i := 5) rfl (vis_of rfl) rfl rfl) eva_nil rfl) rfl (blt_name .len).1 (blt_name .len).2) eva_nil rfl) rfl) rfl rfl) rfl) eva_nil rfl) rfl) rfl))))))
  evs_nil)
  (evs_cons (evs_if (evt_cmp hu (ev_var (i := 1) rfl (vis_of rfl) rfl rfl) ev_str rfl)
  (evs_one (evs_ret (ev_tup (eva_cons ev_str (eva_cons (ev_var (i := 4) rfl (vis_of rfl) rfl rfl) (eva_cons (ev_call tk rfl (c__law_digit.ok (hr.mono (by decide))) (eva_cons (ev_var (i := 0) rfl (vis_of rfl) rfl rfl) (eva_cons (ev_blt rfl T.b_len (blt_boot .len) (blt_kind .len) (blt_ok rfl .len) (eva_cons (ev_var (i := 3) rfl (vis_of rfl) rfl rfl) eva_nil rfl) rfl (blt_name .len).1 (blt_name .len).2) eva_nil rfl) rfl) rfl rfl) eva_nil rfl) rfl) rfl))))
  evs_nil)
  (evs_cons (evs_if (evt_cmp hu (ev_var (i := 1) rfl (vis_of rfl) rfl rfl) ev_str rfl)
  (evs_one (evs_ret (ev_tup (eva_cons ev_str (eva_cons (ev_var (i := 4) rfl (vis_of rfl) rfl rfl) (eva_cons (ev_call tk rfl (c__law_digit.ok (hr.mono (by decide))) (eva_cons (ev_var (i := 0) rfl (vis_of rfl) rfl rfl) (eva_cons ev_int eva_nil rfl) rfl) rfl rfl) (eva_cons (ev_call tk rfl (c__law_digit.ok (hr.mono (by decide))) (eva_cons (ev_var (i := 0) rfl (vis_of rfl) rfl rfl) (eva_cons (ev_bin (ev_var (i := 2) rfl (vis_of rfl) rfl rfl) ev_int) eva_nil rfl) rfl) rfl rfl) eva_nil rfl) rfl) rfl) rfl))))
  evs_nil)
  (evs_cons (evs_set (i := 6) sN rfl (loc_of rfl) (.inl rfl) (ev_call tk rfl (c__law_digit.ok (hr.mono (by decide))) (eva_cons (ev_var (i := 0) rfl (vis_of rfl) rfl rfl) (eva_cons ev_int eva_nil rfl) rfl) rfl rfl) rfl)
  (evs_cons (evs_if (evt_cmp hu (ev_var (i := 1) rfl (vis_of rfl) rfl rfl) ev_str rfl)
  (evs_one (evs_ret (ev_tup (eva_cons ev_str (eva_cons (ev_var (i := 6) rfl (vis_of rfl) rfl rfl) (eva_cons (ev_call tk rfl (c__law_digit.ok (hr.mono (by decide))) (eva_cons (ev_var (i := 0) rfl (vis_of rfl) rfl rfl) (eva_cons (ev_blt rfl T.b_len (blt_boot .len) (blt_kind .len) (blt_ok rfl .len) (eva_cons (ev_var (i := 3) rfl (vis_of rfl) rfl rfl) eva_nil rfl) rfl (blt_name .len).1 (blt_name .len).2) eva_nil rfl) rfl) rfl rfl) eva_nil rfl) rfl) rfl))))
  evs_nil)
  (evs_cons (evs_if (evt_cmp hu (ev_var (i := 1) rfl (vis_of rfl) rfl rfl) ev_str rfl)
  (evs_one (evs_ret (ev_tup (eva_cons ev_str (eva_cons (ev_var (i := 6) rfl (vis_of rfl) rfl rfl) eva_nil rfl) rfl))))
  evs_nil)
  (evs_cons (evs_if (evt_cmp hu (ev_var (i := 1) rfl (vis_of rfl) rfl rfl) ev_str rfl)
  (evs_one (evs_ret (ev_tup (eva_cons ev_str (eva_cons (ev_var (i := 6) rfl (vis_of rfl) rfl rfl) (eva_cons (ev_var (i := 4) rfl (vis_of rfl) rfl rfl) eva_nil rfl) rfl) rfl))))
  evs_nil)
  (evs_cons (evs_if (evt_cmp hu (ev_var (i := 1) rfl (vis_of rfl) rfl rfl) ev_str rfl)
  (evs_one (evs_ret (ev_tup (eva_cons ev_str (eva_cons (ev_var (i := 4) rfl (vis_of rfl) rfl rfl) (eva_cons (ev_var (i := 6) rfl (vis_of rfl) rfl rfl) (eva_cons (ev_call tk rfl (c__law_digit.ok (hr.mono (by decide))) (eva_cons (ev_var (i := 0) rfl (vis_of rfl) rfl rfl) (eva_cons (ev_bin (ev_var (i := 2) rfl (vis_of rfl) rfl rfl) ev_int) eva_nil rfl) rfl) rfl rfl) eva_nil rfl) rfl) rfl) rfl))))
  evs_nil)
  (evs_one (evs_ret (ev_tup (eva_cons ev_str (eva_cons (ev_var (i := 6) rfl (vis_of rfl) rfl rfl) (eva_cons (ev_call tk rfl (c__law_digit.ok (hr.mono (by decide))) (eva_cons (ev_var (i := 0) rfl (vis_of rfl) rfl rfl) (eva_cons ev_int eva_nil rfl) rfl) rfl rfl) (eva_cons (ev_call tk rfl (c__law_digit.ok (hr.mono (by decide))) (eva_cons (ev_var (i := 0) rfl (vis_of rfl) rfl rfl) (eva_cons (ev_bin (ev_var (i := 2) rfl (vis_of rfl) rfl rfl) ev_int) eva_nil rfl) rfl) rfl rfl) eva_nil rfl) rfl) rfl) rfl))))))))))))))
theorem s__law_number : FnScope n__law_number ["_law_state"] (defScope st__law_number) := ⟨rfl, rfl, rfl, by decide +kernel, rfl, by decide +kernel, by decide +kernel⟩
theorem ok__law_number {qual : Str} {f : Addr} {fd : FuncData} (F : Fun K "_law_number" qual st__law_number f fd) (T : Txt K w mg) (c__law_digit : Cal P w K mg base "_law_digit" 2 f__law_digit 1) : FnOk P w K mg base (L2N.CX P w) 2 f fd ["_law_state"] (spOf K mg 1 f__law_number) := by
  refine fn_ok (k := 1) F s__law_number fun cdv A outer s H E hr => ?_
  have hu := hr.units
  have sN := s__law_number.nd
  have tk : L2N.Takes (cxOf (L2N.CX P w) P w K mg base n__law_number qual (defScope st__law_number) f cdv A outer s H E) (fun cls dx _ H => E cls dx H) := L2N.takes_of rfl rfl rfl rfl
  have pw : PassesOwn (model P w) (A.deeper (envOfC qual (defScope st__law_number) s.heap.objs.size f cdv)) (cxOf (L2N.CX P w) P w K mg base n__law_number qual (defScope st__law_number) f cdv A outer s H E).env (cxOf (L2N.CX P w) P w K mg base n__law_number qual (defScope st__law_number) f cdv A outer s H E).xe := passes_of rfl
  exact (evs_one (evs_ret (ev_bin (ev_call tk rfl (c__law_digit.ok (hr.mono (by decide))) (eva_cons (ev_var (i := 0) rfl (vis_of rfl) rfl rfl) (eva_cons (ev_bin ev_int (ev_bin ev_int ev_int)) eva_nil rfl) rfl) rfl rfl) (ev_idx (ev_lst (eva_cons ev_int (eva_cons (ev_bin ev_int ev_int) eva_nil rfl) rfl)) (ev_call tk rfl (c__law_digit.ok (hr.mono (by decide))) (eva_cons (ev_var (i := 0) rfl (vis_of rfl) rfl rfl) (eva_cons ev_int eva_nil rfl) rfl) rfl rfl) rfl))))
theorem s__law_lines : FnScope n__law_lines ["_law_state", "_law_length"] (defScope st__law_lines) := ⟨rfl, rfl, rfl, by decide +kernel, rfl, by decide +kernel, by decide +kernel⟩
theorem ok__law_lines {qual : Str} {f : Addr} {fd : FuncData} (F : Fun K "_law_lines" qual st__law_lines f fd) (T : Txt K w mg) (c__law_digit : Cal P w K mg base "_law_digit" 2 f__law_digit 1) : FnOk P w K mg base (L2N.CX P w) 2 f fd ["_law_state", "_law_length"] (spOf K mg 2 f__law_lines) := by
  refine fn_ok (k := 1) F s__law_lines fun cdv A outer s H E hr => ?_
  have hu := hr.units
  have sN := s__law_lines.nd
  have tk : L2N.Takes (cxOf (L2N.CX P w) P w K mg base n__law_lines qual (defScope st__law_lines) f cdv A outer s H E) (fun cls dx _ H => E cls dx H) := L2N.takes_of rfl rfl rfl rfl
  have pw : PassesOwn (model P w) (A.deeper (envOfC qual (defScope st__law_lines) s.heap.objs.size f cdv)) (cxOf (L2N.CX P w) P w K mg base n__law_lines qual (defScope st__law_lines) f cdv A outer s H E).env (cxOf (L2N.CX P w) P w K mg base n__law_lines qual (defScope st__law_lines) f cdv A outer s H E).xe := passes_of rfl
  exact (evs_cons (evs_set (i := 2) sN rfl (loc_of rfl) (.inl rfl) (ev_rgL1 (tup := false) rfl rfl T.b_list rfl T.b_range ev_int rfl) rfl)
  (evs_cons (evs_set (i := 3) sN rfl (loc_of rfl) (.inl rfl) (ev_lst eva_nil) rfl)
  (evs_cons (evs_for pw rfl (evi_range1 rfl T.b_range (ev_bin ev_int (ev_idx (ev_lst (eva_cons (ev_call tk rfl (c__law_digit.ok (hr.mono (by decide))) (eva_cons (ev_var (i := 0) rfl (vis_of rfl) rfl rfl) (eva_cons ev_int eva_nil rfl) rfl) rfl rfl) (eva_cons (ev_call tk rfl (c__law_digit.ok (hr.mono (by decide))) (eva_cons (ev_var (i := 0) rfl (vis_of rfl) rfl rfl) (eva_cons ev_int eva_nil rfl) rfl) rfl rfl) eva_nil rfl) rfl)) (ev_call tk rfl (c__law_digit.ok (hr.mono (by decide))) (eva_cons (ev_var (i := 0) rfl (vis_of rfl) rfl rfl) (eva_cons ev_int eva_nil rfl) rfl) rfl rfl) rfl)) rfl) (evg_name (i := 4) sN rfl (loc_of rfl) (.inl rfl))
  (evs_cons (evs_set (i := 5) sN rfl (loc_of rfl) (.inl rfl) (ev_popAt (ev_var (i := 2) rfl (vis_of rfl) rfl rfl) (ev_call tk rfl (c__law_digit.ok (hr.mono (by decide))) (eva_cons (ev_var (i := 0) rfl (vis_of rfl) rfl rfl) (eva_cons (ev_blt rfl T.b_len (blt_boot .len) (blt_kind .len) (blt_ok rfl .len) (eva_cons (ev_var (i := 2) rfl (vis_of rfl) rfl rfl) eva_nil rfl) rfl (blt_name .len).1 (blt_name .len).2) eva_nil rfl) rfl) rfl rfl) rfl rfl rfl) rfl)
  (evs_cons (evs_par rfl sN rfl rfl (by decide) rfl rfl (eva_cons (ev_call tk rfl (c__law_digit.ok (hr.mono (by decide))) (eva_cons (ev_var (i := 0) rfl (vis_of rfl) rfl rfl) (eva_cons ev_int eva_nil rfl) rfl) rfl rfl) (eva_cons (ev_call tk rfl (c__law_digit.ok (hr.mono (by decide))) (eva_cons (ev_var (i := 0) rfl (vis_of rfl) rfl rfl) (eva_cons ev_int eva_nil rfl) rfl) rfl rfl) eva_nil rfl) rfl) rfl rfl)
  (evs_cons (evs_set (i := 8) sN rfl (loc_of rfl) (.inl rfl) (ev_bin (ev_bin (ev_bin (ev_var (i := 7) rfl (vis_of rfl) rfl rfl) ev_int) (ev_call tk rfl (c__law_digit.ok (hr.mono (by decide))) (eva_cons (ev_var (i := 0) rfl (vis_of rfl) rfl rfl) (eva_cons ev_int eva_nil rfl) rfl) rfl rfl)) ev_int) rfl)
  (evs_one (evs_expr (ev_app (ev_var (i := 3) rfl (vis_of rfl) rfl rfl) (ev_tup (eva_cons (ev_var (i := 5) rfl (vis_of rfl) rfl rfl) (eva_cons (ev_var (i := 6) rfl (vis_of rfl) rfl rfl) (eva_cons (ev_var (i := 7) rfl (vis_of rfl) rfl rfl) (eva_cons (ev_var (i := 8) rfl (vis_of rfl) rfl rfl) (eva_cons (ev_call tk rfl (c__law_digit.ok (hr.mono (by decide))) (eva_cons (ev_var (i := 0) rfl (vis_of rfl) rfl rfl) (eva_cons (ev_bin (ev_var (i := 1) rfl (vis_of rfl) rfl rfl) ev_int) eva_nil rfl) rfl) rfl rfl) eva_nil rfl) rfl) rfl) rfl) rfl)) rfl rfl rfl) rfl))))) rfl)
  (evs_one (evs_ret (ev_blt rfl T.b_tuple (blt_boot .tuple) (blt_kind .tuple) (blt_ok rfl .tuple) (eva_cons (ev_var (i := 3) rfl (vis_of rfl) rfl rfl) eva_nil rfl) rfl (blt_name .tuple).1 (blt_name .tuple).2))))))
theorem s__law_step : FnScope n__law_step ["_law_state", "_law_length", "_law_counts"] (defScope st__law_step) := ⟨rfl, rfl, rfl, by decide +kernel, rfl, by decide +kernel, by decide +kernel⟩
theorem ok__law_step {qual : Str} {f : Addr} {fd : FuncData} (F : Fun K "_law_step" qual st__law_step f fd) (T : Txt K w mg) (c__law_digit : Cal P w K mg base "_law_digit" 2 f__law_digit 1) (c__law_on_names : Cal P w K mg base "_law_on_names" 4 f__law_on_names 2) (c__law_number : Cal P w K mg base "_law_number" 1 f__law_number 2) (c__law_lines : Cal P w K mg base "_law_lines" 2 f__law_lines 2) : FnOk P w K mg base (L2N.CX P w) 3 f fd ["_law_state", "_law_length", "_law_counts"] (spOf K mg 3 f__law_step) := by
  refine fn_ok (k := 2) F s__law_step fun cdv A outer s H E hr => ?_
  have hu := hr.units
  have sN := s__law_step.nd
  have tk : L2N.Takes (cxOf (L2N.CX P w) P w K mg base n__law_step qual (defScope st__law_step) f cdv A outer s H E) (fun cls dx _ H => E cls dx H) := L2N.takes_of rfl rfl rfl rfl
  have pw : PassesOwn (model P w) (A.deeper (envOfC qual (defScope st__law_step) s.heap.objs.size f cdv)) (cxOf (L2N.CX P w) P w K mg base n__law_step qual (defScope st__law_step) f cdv A outer s H E).env (cxOf (L2N.CX P w) P w K mg base n__law_step qual (defScope st__law_step) f cdv A outer s H E).xe := passes_of rfl
  exact (evs_cons (evs_set (i := 3) sN rfl (loc_of rfl) (.inl rfl) (ev_lst (eva_cons ev_str (eva_cons ev_str (eva_cons ev_str (eva_cons ev_str (eva_cons ev_str (eva_cons ev_str (eva_cons ev_str (eva_cons ev_str (eva_cons ev_str (eva_cons ev_str (eva_cons ev_str eva_nil rfl) rfl) rfl) rfl) rfl) rfl) rfl) rfl) rfl) rfl) rfl)) rfl)
  (evs_cons (evs_set (i := 3) sN rfl (loc_of rfl) (.inl rfl) (ev_bin (ev_var (i := 3) rfl (vis_of rfl) rfl rfl) (ev_lst (eva_cons ev_str (eva_cons ev_str (eva_cons ev_str (eva_cons ev_str (eva_cons ev_str (eva_cons ev_str (eva_cons ev_str (eva_cons ev_str (eva_cons ev_str eva_nil rfl) rfl) rfl) rfl) rfl) rfl) rfl) rfl) rfl))) rfl)
  (evs_cons (evs_set (i := 4) sN rfl (loc_of rfl) (.inl rfl) (ev_idx (ev_var (i := 3) rfl (vis_of rfl) rfl rfl) (ev_call tk rfl (c__law_digit.ok (hr.mono (by decide))) (eva_cons (ev_var (i := 0) rfl (vis_of rfl) rfl rfl) (eva_cons ev_int eva_nil rfl) rfl) rfl rfl) rfl) rfl)
  (evs_cons (evs_if (evt_cmp hu (ev_var (i := 4) rfl (vis_of rfl) rfl rfl) (ev_cut (ev_var (i := 3) rfl (vis_of rfl) rfl rfl) (evo_some ev_int) evo_none) rfl)
  (evs_one (evs_ret (ev_call tk rfl (c__law_on_names.ok (hr.mono (by decide))) (eva_cons (ev_var (i := 0) rfl (vis_of rfl) rfl rfl) (eva_cons (ev_var (i := 4) rfl (vis_of rfl) rfl rfl) (eva_cons (ev_var (i := 1) rfl (vis_of rfl) rfl rfl) (eva_cons (ev_var (i := 2) rfl (vis_of rfl) rfl rfl) eva_nil rfl) rfl) rfl) rfl) rfl rfl)))
  evs_nil)
  (evs_cons (evs_if (evt_cmp hu (ev_var (i := 4) rfl (vis_of rfl) rfl rfl) ev_str rfl)
  (evs_one (evs_ret (ev_tup (eva_cons ev_str eva_nil rfl))))
  evs_nil)
  (evs_cons (evs_if (evt_cmp hu (ev_var (i := 4) rfl (vis_of rfl) rfl rfl) ev_str rfl)
  (evs_one (evs_ret (ev_tup (eva_cons ev_str (eva_cons (ev_call tk rfl (c__law_digit.ok (hr.mono (by decide))) (eva_cons (ev_var (i := 0) rfl (vis_of rfl) rfl rfl) (eva_cons (ev_bin (ev_var (i := 1) rfl (vis_of rfl) rfl rfl) ev_int) eva_nil rfl) rfl) rfl rfl) eva_nil rfl) rfl))))
  evs_nil)
  (evs_cons (evs_set (i := 5) sN rfl (loc_of rfl) (.inl rfl) (ev_call tk rfl (c__law_digit.ok (hr.mono (by decide))) (eva_cons (ev_var (i := 0) rfl (vis_of rfl) rfl rfl) (eva_cons ev_int eva_nil rfl) rfl) rfl rfl) rfl)
  (evs_cons (evs_if (EvTs.t (evts_or (evt_cmp hu (ev_var (i := 4) rfl (vis_of rfl) rfl rfl) ev_str rfl) (evts_or (evt_cmp hu (ev_var (i := 4) rfl (vis_of rfl) rfl rfl) ev_str rfl) evts_or_nil)))
  (evs_one (evs_ret (ev_tup (eva_cons (ev_var (i := 4) rfl (vis_of rfl) rfl rfl) (eva_cons (ev_var (i := 5) rfl (vis_of rfl) rfl rfl) (eva_cons (ev_call tk rfl (c__law_number.ok (hr.mono (by decide))) (eva_cons (ev_var (i := 0) rfl (vis_of rfl) rfl rfl) eva_nil rfl) rfl rfl) eva_nil rfl) rfl) rfl))))
  evs_nil)
  (evs_cons (evs_if (EvTs.t (evts_or (evt_cmp hu (ev_var (i := 4) rfl (vis_of rfl) rfl rfl) ev_str rfl) (evts_or (evt_cmp hu (ev_var (i := 4) rfl (vis_of rfl) rfl rfl) ev_str rfl) evts_or_nil)))
  (evs_one (evs_ret (ev_tup (eva_cons (ev_var (i := 4) rfl (vis_of rfl) rfl rfl) (eva_cons (ev_var (i := 5) rfl (vis_of rfl) rfl rfl) (eva_cons (ev_call tk rfl (c__law_digit.ok (hr.mono (by decide))) (eva_cons (ev_var (i := 0) rfl (vis_of rfl) rfl rfl) (eva_cons ev_int eva_nil rfl) rfl) rfl rfl) eva_nil rfl) rfl) rfl))))
  evs_nil)
  (evs_cons (evs_if (evt_cmp hu (ev_var (i := 4) rfl (vis_of rfl) rfl rfl) ev_str rfl)
  (evs_one (evs_ret (ev_tup (eva_cons ev_str (eva_cons (ev_var (i := 5) rfl (vis_of rfl) rfl rfl) (eva_cons (ev_bin ev_int (ev_call tk rfl (c__law_digit.ok (hr.mono (by decide))) (eva_cons (ev_var (i := 0) rfl (vis_of rfl) rfl rfl) (eva_cons ev_int eva_nil rfl) rfl) rfl rfl)) eva_nil rfl) rfl) rfl))))
  evs_nil)
  (evs_cons (evs_if (evt_cmp hu (ev_var (i := 4) rfl (vis_of rfl) rfl rfl) ev_str rfl)
  (evs_one (evs_ret (ev_tup (eva_cons ev_str (eva_cons (ev_var (i := 5) rfl (vis_of rfl) rfl rfl) (eva_cons (ev_call tk rfl (c__law_number.ok (hr.mono (by decide))) (eva_cons (ev_var (i := 0) rfl (vis_of rfl) rfl rfl) eva_nil rfl) rfl rfl) (eva_cons (ev_call tk rfl (c__law_digit.ok (hr.mono (by decide))) (eva_cons (ev_var (i := 0) rfl (vis_of rfl) rfl rfl) (eva_cons (ev_bin (ev_var (i := 1) rfl (vis_of rfl) rfl rfl) ev_int) eva_nil rfl) rfl) rfl rfl) eva_nil rfl) rfl) rfl) rfl))))
  evs_nil)
  (evs_cons (evs_if (evt_cmp hu (ev_var (i := 4) rfl (vis_of rfl) rfl rfl) ev_str rfl)
  (evs_one (evs_ret (ev_tup (eva_cons ev_str (eva_cons (ev_var (i := 5) rfl (vis_of rfl) rfl rfl) (eva_cons (ev_call tk rfl (c__law_digit.ok (hr.mono (by decide))) (eva_cons (ev_var (i := 0) rfl (vis_of rfl) rfl rfl) (eva_cons ev_int eva_nil rfl) rfl) rfl rfl) (eva_cons (ev_call tk rfl (c__law_digit.ok (hr.mono (by decide))) (eva_cons (ev_var (i := 0) rfl (vis_of rfl) rfl rfl) (eva_cons (ev_bin (ev_var (i := 1) rfl (vis_of rfl) rfl rfl) ev_int) eva_nil rfl) rfl) rfl rfl) eva_nil rfl) rfl) rfl) rfl))))
  evs_nil)
  (evs_cons (evs_if (evt_cmp hu (ev_var (i := 4) rfl (vis_of rfl) rfl rfl) ev_str rfl)
  (evs_one (evs_ret (ev_tup (eva_cons ev_str (eva_cons (ev_var (i := 5) rfl (vis_of rfl) rfl rfl) (eva_cons (ev_bin ev_int (ev_call tk rfl (c__law_digit.ok (hr.mono (by decide))) (eva_cons (ev_var (i := 0) rfl (vis_of rfl) rfl rfl) (eva_cons ev_int eva_nil rfl) rfl) rfl rfl)) (eva_cons (ev_call tk rfl (c__law_digit.ok (hr.mono (by decide))) (eva_cons (ev_var (i := 0) rfl (vis_of rfl) rfl rfl) (eva_cons ev_int eva_nil rfl) rfl) rfl rfl) (eva_cons (ev_call tk rfl (c__law_digit.ok (hr.mono (by decide))) (eva_cons (ev_var (i := 0) rfl (vis_of rfl) rfl rfl) (eva_cons ev_int eva_nil rfl) rfl) rfl rfl) eva_nil rfl) rfl) rfl) rfl) rfl))))
  evs_nil)
  (evs_one (evs_ret (ev_tup (eva_cons ev_str (eva_cons (ev_bin (ev_var (i := 5) rfl (vis_of rfl) rfl rfl) (ev_bin (ev_call tk rfl (c__law_digit.ok (hr.mono (by decide))) (eva_cons (ev_var (i := 0) rfl (vis_of rfl) rfl rfl) (eva_cons ev_int eva_nil rfl) rfl) rfl rfl) (ev_bin (ev_var (i := 5) rfl (vis_of rfl) rfl rfl) ev_int))) (eva_cons (ev_call tk rfl (c__law_lines.ok (hr.mono (by decide))) (eva_cons (ev_var (i := 0) rfl (vis_of rfl) rfl rfl) (eva_cons (ev_var (i := 1) rfl (vis_of rfl) rfl rfl) eva_nil rfl) rfl) rfl rfl) eva_nil rfl) rfl) rfl)))))))))))))))))
theorem s__law_program : FnScope n__law_program ["_law_script"] (defScope st__law_program) := ⟨rfl, rfl, rfl, by decide +kernel, rfl, by decide +kernel, by decide +kernel⟩
theorem ok__law_program {qual : Str} {f : Addr} {fd : FuncData} (F : Fun K "_law_program" qual st__law_program f fd) (T : Txt K w mg) (c__law_cell_at : Cal P w K mg base "_law_cell_at" 2 f__law_cell_at 1) (c__law_digit : Cal P w K mg base "_law_digit" 2 f__law_digit 1) (c__law_hands : Cal P w K mg base "_law_hands" 2 f__law_hands 2) (c__law_step : Cal P w K mg base "_law_step" 3 f__law_step 3) : FnOk P w K mg base (L2N.CX P w) 4 f fd ["_law_script"] (spOf K mg 1 f__law_program) := by
  refine fn_ok (k := 3) F s__law_program fun cdv A outer s H E hr => ?_
  have hu := hr.units
  have sN := s__law_program.nd
  have tk : L2N.Takes (cxOf (L2N.CX P w) P w K mg base n__law_program qual (defScope st__law_program) f cdv A outer s H E) (fun cls dx _ H => E cls dx H) := L2N.takes_of rfl rfl rfl rfl
  have pw : PassesOwn (model P w) (A.deeper (envOfC qual (defScope st__law_program) s.heap.objs.size f cdv)) (cxOf (L2N.CX P w) P w K mg base n__law_program qual (defScope st__law_program) f cdv A outer s H E).env (cxOf (L2N.CX P w) P w K mg base n__law_program qual (defScope st__law_program) f cdv A outer s H E).xe := passes_of rfl
  exact (evs_cons (evs_set (i := 1) sN rfl (loc_of rfl) (.inl rfl) (ev_lst (eva_cons (ev_call tk rfl (c__law_cell_at.ok (hr.mono (by decide))) (eva_cons (ev_var (i := 0) rfl (vis_of rfl) rfl rfl) (eva_cons ev_int eva_nil rfl) rfl) rfl rfl) eva_nil rfl)) rfl)
  (evs_cons (evs_set (i := 2) sN rfl (loc_of rfl) (.inl rfl) (ev_bin ev_int (ev_call tk rfl (c__law_digit.ok (hr.mono (by decide))) (eva_cons (ev_var (i := 1) rfl (vis_of rfl) rfl rfl) (eva_cons ev_int eva_nil rfl) rfl) rfl rfl)) rfl)
  (evs_cons (evs_set (i := 3) sN rfl (loc_of rfl) (.inl rfl) (ev_bin ev_int (ev_call tk rfl (c__law_digit.ok (hr.mono (by decide))) (eva_cons (ev_var (i := 1) rfl (vis_of rfl) rfl rfl) (eva_cons ev_int eva_nil rfl) rfl) rfl rfl)) rfl)
  (evs_cons (evs_set (i := 4) sN rfl (loc_of rfl) (.inl rfl) (ev_tup (eva_cons (ev_call tk rfl (c__law_digit.ok (hr.mono (by decide))) (eva_cons (ev_var (i := 1) rfl (vis_of rfl) rfl rfl) (eva_cons ev_int eva_nil rfl) rfl) rfl rfl) (eva_cons (ev_call tk rfl (c__law_digit.ok (hr.mono (by decide))) (eva_cons (ev_var (i := 1) rfl (vis_of rfl) rfl rfl) (eva_cons ev_int eva_nil rfl) rfl) rfl rfl) eva_nil rfl) rfl)) rfl)
  (evs_cons (evs_set (i := 5) sN rfl (loc_of rfl) (.inl rfl) (ev_call tk rfl (c__law_hands.ok (hr.mono (by decide))) (eva_cons (ev_var (i := 1) rfl (vis_of rfl) rfl rfl) (eva_cons (ev_var (i := 2) rfl (vis_of rfl) rfl rfl) eva_nil rfl) rfl) rfl rfl) rfl)
  (evs_cons (evs_set (i := 6) sN rfl (loc_of rfl) (.inl rfl) (ev_blt rfl T.b_tuple (blt_boot .tuple) (blt_kind .tuple) (blt_ok rfl .tuple) (eva_cons (ev_comp (own := [("_law_role", 9)]) rfl sN (evi_range1 rfl T.b_range (ev_var (i := 2) rfl (vis_of rfl) rfl rfl) rfl) (blkOk_by (show blkC n__law_program (defScope st__law_program) _ _ = true by decide +kernel)) (fun s H C cl fp => (evg_name (i := 9) sN rfl (loc_of rfl) (by first | exact .inr rfl | exact .inl rfl))) (fun s H C cl fp => evtf_nil) (fun s H C cl fp => (ev_blt rfl T.b_len (blt_boot .len) (blt_kind .len) (blt_ok rfl .len) (eva_cons (ev_comp (own := [("_law_hand", 15)]) rfl sN (evi_val (ev_var (i := 5) rfl (vis_of rfl) rfl rfl)) (blkOk_by (by rfl)) (fun s H C cl fp => (evg_name (i := 15) sN rfl (loc_of rfl) (by first | exact .inr rfl | exact .inl rfl))) (fun s H C cl fp => (evtf_one (evt_cmp hu (ev_var (i := 15) rfl (vis_of rfl) rfl rfl) (ev_var (i := 9) rfl (vis_of rfl) rfl rfl) rfl))) (fun s H C cl fp => (ev_var (i := 15) rfl (vis_of rfl) rfl rfl)) rfl (by decide)) eva_nil rfl) rfl (blt_name .len).1 (blt_name .len).2)) rfl (by decide)) eva_nil rfl) rfl (blt_name .tuple).1 (blt_name .tuple).2) rfl)
  (evs_cons (evs_setComp (own := [("_law_cell", 13)]) (i := 7) rfl sN rfl rfl rfl (evi_val (ev_cut (ev_var (i := 0) rfl (vis_of rfl) rfl rfl) (evo_some ev_int) (evo_some ev_int))) (blkOk_by (show blkC n__law_program (defScope st__law_program) _ _ = true by decide +kernel)) (fun s H C cl fp => (evg_name (i := 13) sN rfl (loc_of rfl) (by first | exact .inr rfl | exact .inl rfl))) (fun s H C cl fp => evtf_nil) (fun s H C cl fp => (ev_bin (ev_var (i := 13) rfl (vis_of rfl) rfl rfl) (ev_var (i := 2) rfl (vis_of rfl) rfl rfl))) rfl (by decide))
  (evs_cons (evs_set (i := 8) sN rfl (loc_of rfl) (.inl rfl) (ev_lst eva_nil) rfl)
  (evs_cons (evs_for pw rfl (evi_range1 rfl T.b_range (ev_var (i := 2) rfl (vis_of rfl) rfl rfl) rfl) (evg_name (i := 9) sN rfl (loc_of rfl) (.inl rfl))
  (evs_cons (evs_set (i := 10) sN rfl (loc_of rfl) (.inl rfl) (ev_blt rfl T.b_len (blt_boot .len) (blt_kind .len) (blt_ok rfl .len) (eva_cons (ev_comp (own := [("_law_owner", 14)]) rfl sN (evi_val (ev_var (i := 7) rfl (vis_of rfl) rfl rfl)) (blkOk_by (show blkC n__law_program (defScope st__law_program) _ _ = true by decide +kernel)) (fun s H C cl fp => (evg_name (i := 14) sN rfl (loc_of rfl) (by first | exact .inr rfl | exact .inl rfl))) (fun s H C cl fp => (evtf_one (evt_cmp hu (ev_var (i := 14) rfl (vis_of rfl) rfl rfl) (ev_var (i := 9) rfl (vis_of rfl) rfl rfl) rfl))) (fun s H C cl fp => (ev_var (i := 14) rfl (vis_of rfl) rfl rfl)) rfl (by decide)) eva_nil rfl) rfl (blt_name .len).1 (blt_name .len).2) rfl)
  (evs_cons (evs_set (i := 11) sN rfl (loc_of rfl) (.inl rfl) (ev_lst eva_nil) rfl)
  (evs_cons (evs_for pw rfl (evi_range1 rfl T.b_range (ev_blt rfl T.b_len (blt_boot .len) (blt_kind .len) (blt_ok rfl .len) (eva_cons (ev_var (i := 7) rfl (vis_of rfl) rfl rfl) eva_nil rfl) rfl (blt_name .len).1 (blt_name .len).2) rfl) (evg_name (i := 12) sN rfl (loc_of rfl) (.inl rfl))
  (evs_one (evs_if (evt_cmp hu (ev_idx (ev_var (i := 7) rfl (vis_of rfl) rfl rfl) (ev_var (i := 12) rfl (vis_of rfl) rfl rfl) rfl) (ev_var (i := 9) rfl (vis_of rfl) rfl rfl) rfl)
  (evs_one (evs_expr (ev_app (ev_var (i := 11) rfl (vis_of rfl) rfl rfl) (ev_call tk rfl (c__law_step.ok (hr.mono (by decide))) (eva_cons (ev_lst (eva_cons (ev_bin (ev_idx (ev_var (i := 0) rfl (vis_of rfl) rfl rfl) (ev_bin ev_int (ev_var (i := 12) rfl (vis_of rfl) rfl rfl)) rfl) (ev_var (i := 2) rfl (vis_of rfl) rfl rfl)) eva_nil rfl)) (eva_cons (ev_var (i := 10) rfl (vis_of rfl) rfl rfl) (eva_cons (ev_var (i := 6) rfl (vis_of rfl) rfl rfl) eva_nil rfl) rfl) rfl) rfl rfl) rfl rfl rfl) rfl))
  evs_nil)) rfl)
  (evs_one (evs_expr (ev_app (ev_var (i := 8) rfl (vis_of rfl) rfl rfl) (ev_blt rfl T.b_tuple (blt_boot .tuple) (blt_kind .tuple) (blt_ok rfl .tuple) (eva_cons (ev_var (i := 11) rfl (vis_of rfl) rfl rfl) eva_nil rfl) rfl (blt_name .tuple).1 (blt_name .tuple).2) rfl rfl rfl) rfl))))) rfl)
  (evs_one (evs_ret (ev_tup (eva_cons (ev_var (i := 3) rfl (vis_of rfl) rfl rfl) (eva_cons (ev_var (i := 4) rfl (vis_of rfl) rfl rfl) (eva_cons (ev_blt rfl T.b_tuple (blt_boot .tuple) (blt_kind .tuple) (blt_ok rfl .tuple) (eva_cons (ev_var (i := 8) rfl (vis_of rfl) rfl rfl) eva_nil rfl) rfl (blt_name .tuple).1 (blt_name .tuple).2) (eva_cons (ev_var (i := 5) rfl (vis_of rfl) rfl rfl) eva_nil rfl) rfl) rfl) rfl)))))))))))))
theorem s__law_spots : FnScope n__law_spots ["_law_program_here"] (defScope st__law_spots) := ⟨rfl, rfl, rfl, by decide +kernel, rfl, by decide +kernel, by decide +kernel⟩
theorem ok__law_spots {qual : Str} {f : Addr} {fd : FuncData} (F : Fun K "_law_spots" qual st__law_spots f fd) (T : Txt K w mg)  : FnOk P w K mg base (L2N.CX P w) 1 f fd ["_law_program_here"] (spOf K mg 1 f__law_spots) := by
  refine fn_ok (k := 0) F s__law_spots fun cdv A outer s H E hr => ?_
  have hu := hr.units
  have sN := s__law_spots.nd
  have tk : L2N.Takes (cxOf (L2N.CX P w) P w K mg base n__law_spots qual (defScope st__law_spots) f cdv A outer s H E) (fun cls dx _ H => E cls dx H) := L2N.takes_of rfl rfl rfl rfl
  have pw : PassesOwn (model P w) (A.deeper (envOfC qual (defScope st__law_spots) s.heap.objs.size f cdv)) (cxOf (L2N.CX P w) P w K mg base n__law_spots qual (defScope st__law_spots) f cdv A outer s H E).env (cxOf (L2N.CX P w) P w K mg base n__law_spots qual (defScope st__law_spots) f cdv A outer s H E).xe := passes_of rfl
  exact (evs_cons (evs_set (i := 1) sN rfl (loc_of rfl) (.inl rfl) (ev_lst eva_nil) rfl)
  (evs_cons (evs_for pw rfl (evi_range1 rfl T.b_range (ev_blt rfl T.b_len (blt_boot .len) (blt_kind .len) (blt_ok rfl .len) (eva_cons (ev_idx (ev_var (i := 0) rfl (vis_of rfl) rfl rfl) ev_int rfl) eva_nil rfl) rfl (blt_name .len).1 (blt_name .len).2) rfl) (evg_name (i := 2) sN rfl (loc_of rfl) (.inl rfl))
  (evs_one (evs_for pw rfl (evi_range1 rfl T.b_range (ev_blt rfl T.b_len (blt_boot .len) (blt_kind .len) (blt_ok rfl .len) (eva_cons (ev_idx (ev_idx (ev_var (i := 0) rfl (vis_of rfl) rfl rfl) ev_int rfl) (ev_var (i := 2) rfl (vis_of rfl) rfl rfl) rfl) eva_nil rfl) rfl (blt_name .len).1 (blt_name .len).2) rfl) (evg_name (i := 3) sN rfl (loc_of rfl) (.inl rfl))
  (evs_one (evs_expr (ev_app (ev_var (i := 1) rfl (vis_of rfl) rfl rfl) (ev_tup (eva_cons (ev_var (i := 2) rfl (vis_of rfl) rfl rfl) (eva_cons (ev_var (i := 3) rfl (vis_of rfl) rfl rfl) eva_nil rfl) rfl)) rfl rfl rfl) rfl)) rfl)) rfl)
  (evs_one (evs_ret (ev_var (i := 1) rfl (vis_of rfl) rfl rfl)))))
theorem s__law_bad : FnScope n__law_bad ["_law_program_here", "_law_spot", "_law_cell"] (defScope st__law_bad) := ⟨rfl, rfl, rfl, by decide +kernel, rfl, by decide +kernel, by decide +kernel⟩
theorem ok__law_bad {qual : Str} {f : Addr} {fd : FuncData} (F : Fun K "_law_bad" qual st__law_bad f fd) (T : Txt K w mg)  : FnOk P w K mg base (L2N.CX P w) 1 f fd ["_law_program_here", "_law_spot", "_law_cell"] (spOf K mg 3 f__law_bad) := by
  refine fn_ok (k := 0) F s__law_bad fun cdv A outer s H E hr => ?_
  have hu := hr.units
  have sN := s__law_bad.nd
  have tk : L2N.Takes (cxOf (L2N.CX P w) P w K mg base n__law_bad qual (defScope st__law_bad) f cdv A outer s H E) (fun cls dx _ H => E cls dx H) := L2N.takes_of rfl rfl rfl rfl
  have pw : PassesOwn (model P w) (A.deeper (envOfC qual (defScope st__law_bad) s.heap.objs.size f cdv)) (cxOf (L2N.CX P w) P w K mg base n__law_bad qual (defScope st__law_bad) f cdv A outer s H E).env (cxOf (L2N.CX P w) P w K mg base n__law_bad qual (defScope st__law_bad) f cdv A outer s H E).xe := passes_of rfl
  exact (evs_cons (evs_set (i := 3) sN rfl (loc_of rfl) (.inl rfl) (ev_lst (eva_cons (ev_tup (eva_cons ev_str (eva_cons ev_int (eva_cons ev_int eva_nil rfl) rfl) rfl)) (eva_cons (ev_tup (eva_cons ev_str (eva_cons ev_int eva_nil rfl) rfl)) (eva_cons (ev_tup (eva_cons ev_str (eva_cons ev_int eva_nil rfl) rfl)) (eva_cons ev_int (eva_cons (ev_tup (eva_cons ev_str (eva_cons ev_int (eva_cons (ev_tup eva_nil) eva_nil rfl) rfl) rfl)) (eva_cons (ev_tup (eva_cons ev_str (eva_cons ev_int (eva_cons ev_int eva_nil rfl) rfl) rfl)) (eva_cons (ev_tup (eva_cons ev_str (eva_cons ev_int (eva_cons ev_int eva_nil rfl) rfl) rfl)) (eva_cons (ev_tup eva_nil) eva_nil rfl) rfl) rfl) rfl) rfl) rfl) rfl) rfl)) rfl)
  (evs_cons (evs_set (i := 4) sN rfl (loc_of rfl) (.inl rfl) (ev_idx (ev_idx (ev_var (i := 0) rfl (vis_of rfl) rfl rfl) ev_int rfl) (ev_idx (ev_var (i := 1) rfl (vis_of rfl) rfl rfl) ev_int rfl) rfl) rfl)
  (evs_cons (evs_set (i := 4) sN rfl (loc_of rfl) (.inl rfl) (ev_bin (ev_bin (ev_cut (ev_var (i := 4) rfl (vis_of rfl) rfl rfl) evo_none (evo_some (ev_idx (ev_var (i := 1) rfl (vis_of rfl) rfl rfl) ev_int rfl))) (ev_tup (eva_cons (ev_idx (ev_var (i := 3) rfl (vis_of rfl) rfl rfl) (ev_bin (ev_var (i := 2) rfl (vis_of rfl) rfl rfl) ev_int) rfl) eva_nil rfl))) (ev_cut (ev_var (i := 4) rfl (vis_of rfl) rfl rfl) (evo_some (ev_bin (ev_idx (ev_var (i := 1) rfl (vis_of rfl) rfl rfl) ev_int rfl) ev_int)) evo_none)) rfl)
  (evs_one (evs_ret (ev_tup (eva_cons (ev_idx (ev_var (i := 0) rfl (vis_of rfl) rfl rfl) ev_int rfl) (eva_cons (ev_idx (ev_var (i := 0) rfl (vis_of rfl) rfl rfl) ev_int rfl) (eva_cons (ev_bin (ev_bin (ev_cut (ev_idx (ev_var (i := 0) rfl (vis_of rfl) rfl rfl) ev_int rfl) evo_none (evo_some (ev_idx (ev_var (i := 1) rfl (vis_of rfl) rfl rfl) ev_int rfl))) (ev_tup (eva_cons (ev_var (i := 4) rfl (vis_of rfl) rfl rfl) eva_nil rfl))) (ev_cut (ev_idx (ev_var (i := 0) rfl (vis_of rfl) rfl rfl) ev_int rfl) (evo_some (ev_bin (ev_idx (ev_var (i := 1) rfl (vis_of rfl) rfl rfl) ev_int rfl) ev_int)) evo_none)) (eva_cons (ev_idx (ev_var (i := 0) rfl (vis_of rfl) rfl rfl) ev_int rfl) eva_nil rfl) rfl) rfl) rfl)))))))
theorem s_is_tuple_of : FnScope n_is_tuple_of ["thing", "low", "high"] (defScope st_is_tuple_of) := ⟨rfl, rfl, rfl, by decide +kernel, rfl, by decide +kernel, by decide +kernel⟩
theorem ok_is_tuple_of {qual : Str} {f : Addr} {fd : FuncData} (F : Fun K "is_tuple_of" qual st_is_tuple_of f fd) (T : Txt K w mg)  : FnOk P w K mg base (L2N.CX P w) 1 f fd ["thing", "low", "high"] (spOf K mg 3 f_is_tuple_of) := by
  refine fn_ok (k := 0) F s_is_tuple_of fun cdv A outer s H E hr => ?_
  have hu := hr.units
  have sN := s_is_tuple_of.nd
  have tk : L2N.Takes (cxOf (L2N.CX P w) P w K mg base n_is_tuple_of qual (defScope st_is_tuple_of) f cdv A outer s H E) (fun cls dx _ H => E cls dx H) := L2N.takes_of rfl rfl rfl rfl
  have pw : PassesOwn (model P w) (A.deeper (envOfC qual (defScope st_is_tuple_of) s.heap.objs.size f cdv)) (cxOf (L2N.CX P w) P w K mg base n_is_tuple_of qual (defScope st_is_tuple_of) f cdv A outer s H E).env (cxOf (L2N.CX P w) P w K mg base n_is_tuple_of qual (defScope st_is_tuple_of) f cdv A outer s H E).xe := passes_of rfl
  exact (evs_one (evs_ret (ev_and (ev_isi (T := .tuple) rfl T.b_isinstance rfl T.b_tuple (ev_var (i := 0) rfl (vis_of rfl) rfl rfl) rfl) (ev_one (ev_chain hu (ev_var (i := 1) rfl (vis_of rfl) rfl rfl) (ev_blt rfl T.b_len (blt_boot .len) (blt_kind .len) (blt_ok rfl .len) (eva_cons (ev_var (i := 0) rfl (vis_of rfl) rfl rfl) eva_nil rfl) rfl (blt_name .len).1 (blt_name .len).2) (ev_var (i := 2) rfl (vis_of rfl) rfl rfl) rfl)))))
theorem s_is_whole : FnScope n_is_whole ["thing"] (defScope st_is_whole) := ⟨rfl, rfl, rfl, by decide +kernel, rfl, by decide +kernel, by decide +kernel⟩
theorem ok_is_whole {qual : Str} {f : Addr} {fd : FuncData} (F : Fun K "is_whole" qual st_is_whole f fd) (T : Txt K w mg)  : FnOk P w K mg base (L2N.CX P w) 1 f fd ["thing"] (spOf K mg 1 f_is_whole) := by
  refine fn_ok (k := 0) F s_is_whole fun cdv A outer s H E hr => ?_
  have hu := hr.units
  have sN := s_is_whole.nd
  have tk : L2N.Takes (cxOf (L2N.CX P w) P w K mg base n_is_whole qual (defScope st_is_whole) f cdv A outer s H E) (fun cls dx _ H => E cls dx H) := L2N.takes_of rfl rfl rfl rfl
  have pw : PassesOwn (model P w) (A.deeper (envOfC qual (defScope st_is_whole) s.heap.objs.size f cdv)) (cxOf (L2N.CX P w) P w K mg base n_is_whole qual (defScope st_is_whole) f cdv A outer s H E).env (cxOf (L2N.CX P w) P w K mg base n_is_whole qual (defScope st_is_whole) f cdv A outer s H E).xe := passes_of rfl
  exact (evs_one (evs_ret (ev_and (ev_isi (T := .int) rfl T.b_isinstance rfl T.b_int (ev_var (i := 0) rfl (vis_of rfl) rfl rfl) rfl) (ev_one (ev_not (ev_isi (T := .bool) rfl T.b_isinstance rfl T.b_bool (ev_var (i := 0) rfl (vis_of rfl) rfl rfl) rfl))))))
theorem s_is_from : FnScope n_is_from ["thing", "low", "high"] (defScope st_is_from) := ⟨rfl, rfl, rfl, by decide +kernel, rfl, by decide +kernel, by decide +kernel⟩
theorem ok_is_from {qual : Str} {f : Addr} {fd : FuncData} (F : Fun K "is_from" qual st_is_from f fd) (T : Txt K w mg) (c_is_whole : Cal P w K mg base "is_whole" 1 f_is_whole 1) : FnOk P w K mg base (L2N.CX P w) 2 f fd ["thing", "low", "high"] (spOf K mg 3 f_is_from) := by
  refine fn_ok (k := 1) F s_is_from fun cdv A outer s H E hr => ?_
  have hu := hr.units
  have sN := s_is_from.nd
  have tk : L2N.Takes (cxOf (L2N.CX P w) P w K mg base n_is_from qual (defScope st_is_from) f cdv A outer s H E) (fun cls dx _ H => E cls dx H) := L2N.takes_of rfl rfl rfl rfl
  have pw : PassesOwn (model P w) (A.deeper (envOfC qual (defScope st_is_from) s.heap.objs.size f cdv)) (cxOf (L2N.CX P w) P w K mg base n_is_from qual (defScope st_is_from) f cdv A outer s H E).env (cxOf (L2N.CX P w) P w K mg base n_is_from qual (defScope st_is_from) f cdv A outer s H E).xe := passes_of rfl
  exact (evs_one (evs_ret (ev_and (ev_call tk rfl (c_is_whole.ok (hr.mono (by decide))) (eva_cons (ev_var (i := 0) rfl (vis_of rfl) rfl rfl) eva_nil rfl) rfl rfl) (ev_one (ev_chain hu (ev_var (i := 1) rfl (vis_of rfl) rfl rfl) (ev_var (i := 0) rfl (vis_of rfl) rfl rfl) (ev_var (i := 2) rfl (vis_of rfl) rfl rfl) rfl)))))
theorem s_is_rising : FnScope n_is_rising ["hands"] (defScope st_is_rising) := ⟨rfl, rfl, rfl, by decide +kernel, rfl, by decide +kernel, by decide +kernel⟩
theorem ok_is_rising {qual : Str} {f : Addr} {fd : FuncData} (F : Fun K "is_rising" qual st_is_rising f fd) (T : Txt K w mg)  : FnOk P w K mg base (L2N.CX P w) 1 f fd ["hands"] (spOf K mg 1 f_is_rising) := by
  refine fn_ok (k := 0) F s_is_rising fun cdv A outer s H E hr => ?_
  have hu := hr.units
  have sN := s_is_rising.nd
  have tk : L2N.Takes (cxOf (L2N.CX P w) P w K mg base n_is_rising qual (defScope st_is_rising) f cdv A outer s H E) (fun cls dx _ H => E cls dx H) := L2N.takes_of rfl rfl rfl rfl
  have pw : PassesOwn (model P w) (A.deeper (envOfC qual (defScope st_is_rising) s.heap.objs.size f cdv)) (cxOf (L2N.CX P w) P w K mg base n_is_rising qual (defScope st_is_rising) f cdv A outer s H E).env (cxOf (L2N.CX P w) P w K mg base n_is_rising qual (defScope st_is_rising) f cdv A outer s H E).xe := passes_of rfl
  exact (evs_one (evs_ret (ev_blt rfl T.b_all (blt_boot .all) (blt_kind .all) (blt_ok rfl .all) (eva_cons (ev_comp (own := [("k", 1)]) rfl sN (evi_range2 rfl T.b_range ev_int (ev_blt rfl T.b_len (blt_boot .len) (blt_kind .len) (blt_ok rfl .len) (eva_cons (ev_var (i := 0) rfl (vis_of rfl) rfl rfl) eva_nil rfl) rfl (blt_name .len).1 (blt_name .len).2) rfl rfl) (blkOk_by (show blkC n_is_rising (defScope st_is_rising) _ _ = true by decide +kernel)) (fun s H C cl fp => (evg_name (i := 1) sN rfl (loc_of rfl) (by first | exact .inr rfl | exact .inl rfl))) (fun s H C cl fp => evtf_nil) (fun s H C cl fp => (ev_cmp hu (ev_idx (ev_var (i := 0) rfl (vis_of rfl) rfl rfl) (ev_bin (ev_var (i := 1) rfl (vis_of rfl) rfl rfl) ev_int) rfl) (ev_idx (ev_var (i := 0) rfl (vis_of rfl) rfl rfl) (ev_var (i := 1) rfl (vis_of rfl) rfl rfl) rfl) rfl)) rfl (by decide)) eva_nil rfl) rfl (blt_name .all).1 (blt_name .all).2)))
theorem s_is_whole_program : FnScope n_is_whole_program ["program"] (defScope st_is_whole_program) := ⟨rfl, rfl, rfl, by decide +kernel, rfl, by decide +kernel, by decide +kernel⟩
theorem ok_is_whole_program {qual : Str} {f : Addr} {fd : FuncData} (F : Fun K "is_whole_program" qual st_is_whole_program f fd) (T : Txt K w mg) (c_is_tuple_of : Cal P w K mg base "is_tuple_of" 3 f_is_tuple_of 1) (c_is_from : Cal P w K mg base "is_from" 3 f_is_from 2) (c_is_rising : Cal P w K mg base "is_rising" 1 f_is_rising 1) : FnOk P w K mg base (L2N.CX P w) 3 f fd ["program"] (spOf K mg 1 f_is_whole_program) := by
  refine fn_ok (k := 2) F s_is_whole_program fun cdv A outer s H E hr => ?_
  have hu := hr.units
  have sN := s_is_whole_program.nd
  have tk : L2N.Takes (cxOf (L2N.CX P w) P w K mg base n_is_whole_program qual (defScope st_is_whole_program) f cdv A outer s H E) (fun cls dx _ H => E cls dx H) := L2N.takes_of rfl rfl rfl rfl
  have pw : PassesOwn (model P w) (A.deeper (envOfC qual (defScope st_is_whole_program) s.heap.objs.size f cdv)) (cxOf (L2N.CX P w) P w K mg base n_is_whole_program qual (defScope st_is_whole_program) f cdv A outer s H E).env (cxOf (L2N.CX P w) P w K mg base n_is_whole_program qual (defScope st_is_whole_program) f cdv A outer s H E).xe := passes_of rfl
  exact (evs_cons (evs_if (evt_not (evt_plain (ev_call tk rfl (c_is_tuple_of.ok (hr.mono (by decide))) (eva_cons (ev_var (i := 0) rfl (vis_of rfl) rfl rfl) (eva_cons ev_int (eva_cons ev_int eva_nil rfl) rfl) rfl) rfl rfl) rfl))
  (evs_one (evs_ret ev_bl))
  evs_nil)
  (evs_cons (evs_asg (ev_var (i := 0) rfl (vis_of rfl) rfl rfl) (evg_tup rfl (evgs_cons (evg_name (i := 1) sN rfl (loc_of rfl) (.inl rfl)) (evgs_cons (evg_name (i := 2) sN rfl (loc_of rfl) (.inl rfl)) (evgs_cons (evg_name (i := 3) sN rfl (loc_of rfl) (.inl rfl)) (evgs_cons (evg_name (i := 4) sN rfl (loc_of rfl) (.inl rfl)) evgs_nil rfl) rfl) rfl) rfl) rfl rfl) rfl rfl rfl)
  (evs_cons (evs_if (EvTs.t (evts_or (evt_not (evt_plain (ev_call tk rfl (c_is_from.ok (hr.mono (by decide))) (eva_cons (ev_var (i := 1) rfl (vis_of rfl) rfl rfl) (eva_cons ev_int (eva_cons (ev_cn rfl T.g_MOST_ROOM rfl) eva_nil rfl) rfl) rfl) rfl rfl) rfl)) (evts_or (evt_not (evt_plain (ev_call tk rfl (c_is_tuple_of.ok (hr.mono (by decide))) (eva_cons (ev_var (i := 2) rfl (vis_of rfl) rfl rfl) (eva_cons ev_int (eva_cons ev_int eva_nil rfl) rfl) rfl) rfl rfl) rfl)) evts_or_nil)))
  (evs_one (evs_ret ev_bl))
  evs_nil)
  (evs_cons (evs_if (evt_not (evt_plain (ev_blt rfl T.b_all (blt_boot .all) (blt_kind .all) (blt_ok rfl .all) (eva_cons (ev_comp (own := [("number", 5)]) rfl sN (evi_val (ev_var (i := 2) rfl (vis_of rfl) rfl rfl)) (blkOk_by (show blkC n_is_whole_program (defScope st_is_whole_program) _ _ = true by decide +kernel)) (fun s H C cl fp => (evg_name (i := 5) sN rfl (loc_of rfl) (by first | exact .inr rfl | exact .inl rfl))) (fun s H C cl fp => evtf_nil) (fun s H C cl fp => (ev_call takes0 rfl (c_is_from.ok (hr.mono (by decide))) (eva_cons (ev_var (i := 5) rfl (vis_of rfl) rfl rfl) (eva_cons ev_int (eva_cons (ev_cn rfl T.g_MOST_LEFT rfl) eva_nil rfl) rfl) rfl) rfl rfl)) rfl (by decide)) eva_nil rfl) rfl (blt_name .all).1 (blt_name .all).2) rfl))
  (evs_one (evs_ret ev_bl))
  evs_nil)
  (evs_cons (evs_if (EvTs.t (evts_or (evt_not (evt_plain (ev_call tk rfl (c_is_tuple_of.ok (hr.mono (by decide))) (eva_cons (ev_var (i := 3) rfl (vis_of rfl) rfl rfl) (eva_cons ev_int (eva_cons (ev_cn rfl T.g_MOST_ROLES rfl) eva_nil rfl) rfl) rfl) rfl rfl) rfl)) (evts_or (evt_not (evt_plain (ev_call tk rfl (c_is_tuple_of.ok (hr.mono (by decide))) (eva_cons (ev_var (i := 4) rfl (vis_of rfl) rfl rfl) (eva_cons ev_int (eva_cons (ev_cn rfl T.g_MOST_HANDS rfl) eva_nil rfl) rfl) rfl) rfl rfl) rfl)) evts_or_nil)))
  (evs_one (evs_ret ev_bl))
  evs_nil)
  (evs_cons (evs_if (evt_not (evt_plain (ev_blt rfl T.b_all (blt_boot .all) (blt_kind .all) (blt_ok rfl .all) (eva_cons (ev_comp (own := [("steps", 6)]) rfl sN (evi_val (ev_var (i := 3) rfl (vis_of rfl) rfl rfl)) (blkOk_by (show blkC n_is_whole_program (defScope st_is_whole_program) _ _ = true by decide +kernel)) (fun s H C cl fp => (evg_name (i := 6) sN rfl (loc_of rfl) (by first | exact .inr rfl | exact .inl rfl))) (fun s H C cl fp => evtf_nil) (fun s H C cl fp => (ev_call takes0 rfl (c_is_tuple_of.ok (hr.mono (by decide))) (eva_cons (ev_var (i := 6) rfl (vis_of rfl) rfl rfl) (eva_cons ev_int (eva_cons (ev_cn rfl T.g_MOST_STEPS rfl) eva_nil rfl) rfl) rfl) rfl rfl)) rfl (by decide)) eva_nil rfl) rfl (blt_name .all).1 (blt_name .all).2) rfl))
  (evs_one (evs_ret ev_bl))
  evs_nil)
  (evs_one (evs_ret (ev_and (ev_blt rfl T.b_all (blt_boot .all) (blt_kind .all) (blt_ok rfl .all) (eva_cons (ev_comp (own := [("role", 7)]) rfl sN (evi_val (ev_var (i := 4) rfl (vis_of rfl) rfl rfl)) (blkOk_by (show blkC n_is_whole_program (defScope st_is_whole_program) _ _ = true by decide +kernel)) (fun s H C cl fp => (evg_name (i := 7) sN rfl (loc_of rfl) (by first | exact .inr rfl | exact .inl rfl))) (fun s H C cl fp => evtf_nil) (fun s H C cl fp => (ev_call takes0 rfl (c_is_from.ok (hr.mono (by decide))) (eva_cons (ev_var (i := 7) rfl (vis_of rfl) rfl rfl) (eva_cons ev_int (eva_cons (ev_bin (ev_blt rfl T.b_len (blt_boot .len) (blt_kind .len) (blt_ok rfl .len) (eva_cons (ev_var (i := 3) rfl (vis_of rfl) rfl rfl) eva_nil rfl) rfl (blt_name .len).1 (blt_name .len).2) ev_int) eva_nil rfl) rfl) rfl) rfl rfl)) rfl (by decide)) eva_nil rfl) rfl (blt_name .all).1 (blt_name .all).2) (ev_one (ev_call tk rfl (c_is_rising.ok (hr.mono (by decide))) (eva_cons (ev_var (i := 4) rfl (vis_of rfl) rfl rfl) eva_nil rfl) rfl rfl)))))))))))
theorem s_hands_of : FnScope n_hands_of ["program", "role"] (defScope st_hands_of) := ⟨rfl, rfl, rfl, by decide +kernel, rfl, by decide +kernel, by decide +kernel⟩
theorem ok_hands_of {qual : Str} {f : Addr} {fd : FuncData} (F : Fun K "hands_of" qual st_hands_of f fd) (T : Txt K w mg)  : FnOk P w K mg base (L2N.CX P w) 1 f fd ["program", "role"] (spOf K mg 2 f_hands_of) := by
  refine fn_ok (k := 0) F s_hands_of fun cdv A outer s H E hr => ?_
  have hu := hr.units
  have sN := s_hands_of.nd
  have tk : L2N.Takes (cxOf (L2N.CX P w) P w K mg base n_hands_of qual (defScope st_hands_of) f cdv A outer s H E) (fun cls dx _ H => E cls dx H) := L2N.takes_of rfl rfl rfl rfl
  have pw : PassesOwn (model P w) (A.deeper (envOfC qual (defScope st_hands_of) s.heap.objs.size f cdv)) (cxOf (L2N.CX P w) P w K mg base n_hands_of qual (defScope st_hands_of) f cdv A outer s H E).env (cxOf (L2N.CX P w) P w K mg base n_hands_of qual (defScope st_hands_of) f cdv A outer s H E).xe := passes_of rfl
  exact (evs_one (evs_ret (ev_blt rfl T.b_tuple (blt_boot .tuple) (blt_kind .tuple) (blt_ok rfl .tuple) (eva_cons (ev_comp (own := [("hand", 2), ("own", 3)]) rfl sN (evi_enum rfl T.b_enumerate (ev_idx (ev_var (i := 0) rfl (vis_of rfl) rfl rfl) ev_int rfl) rfl) (blkOk_by (show blkC n_hands_of (defScope st_hands_of) _ _ = true by decide +kernel)) (fun s H C cl fp => (evg_tup rfl (evgs_cons (evg_name (i := 2) sN rfl (loc_of rfl) (by first | exact .inr rfl | exact .inl rfl)) (evgs_cons (evg_name (i := 3) sN rfl (loc_of rfl) (by first | exact .inr rfl | exact .inl rfl)) evgs_nil rfl) rfl) rfl rfl)) (fun s H C cl fp => (evtf_one (evt_cmp hu (ev_var (i := 3) rfl (vis_of rfl) rfl rfl) (ev_var (i := 1) rfl (vis_of rfl) rfl rfl) rfl))) (fun s H C cl fp => (ev_var (i := 2) rfl (vis_of rfl) rfl rfl)) rfl (by decide)) eva_nil rfl) rfl (blt_name .tuple).1 (blt_name .tuple).2)))
theorem s_counts_of : FnScope n_counts_of ["program"] (defScope st_counts_of) := ⟨rfl, rfl, rfl, by decide +kernel, rfl, by decide +kernel, by decide +kernel⟩
theorem ok_counts_of {qual : Str} {f : Addr} {fd : FuncData} (F : Fun K "counts_of" qual st_counts_of f fd) (T : Txt K w mg) (c_hands_of : Cal P w K mg base "hands_of" 2 f_hands_of 1) : FnOk P w K mg base (L2N.CX P w) 2 f fd ["program"] (spOf K mg 1 f_counts_of) := by
  refine fn_ok (k := 1) F s_counts_of fun cdv A outer s H E hr => ?_
  have hu := hr.units
  have sN := s_counts_of.nd
  have tk : L2N.Takes (cxOf (L2N.CX P w) P w K mg base n_counts_of qual (defScope st_counts_of) f cdv A outer s H E) (fun cls dx _ H => E cls dx H) := L2N.takes_of rfl rfl rfl rfl
  have pw : PassesOwn (model P w) (A.deeper (envOfC qual (defScope st_counts_of) s.heap.objs.size f cdv)) (cxOf (L2N.CX P w) P w K mg base n_counts_of qual (defScope st_counts_of) f cdv A outer s H E).env (cxOf (L2N.CX P w) P w K mg base n_counts_of qual (defScope st_counts_of) f cdv A outer s H E).xe := passes_of rfl
  exact (evs_one (evs_ret (ev_blt rfl T.b_tuple (blt_boot .tuple) (blt_kind .tuple) (blt_ok rfl .tuple) (eva_cons (ev_comp (own := [("role", 1)]) rfl sN (evi_range1 rfl T.b_range (ev_blt rfl T.b_len (blt_boot .len) (blt_kind .len) (blt_ok rfl .len) (eva_cons (ev_idx (ev_var (i := 0) rfl (vis_of rfl) rfl rfl) ev_int rfl) eva_nil rfl) rfl (blt_name .len).1 (blt_name .len).2) rfl) (blkOk_by (show blkC n_counts_of (defScope st_counts_of) _ _ = true by decide +kernel)) (fun s H C cl fp => (evg_name (i := 1) sN rfl (loc_of rfl) (by first | exact .inr rfl | exact .inl rfl))) (fun s H C cl fp => evtf_nil) (fun s H C cl fp => (ev_blt rfl T.b_len (blt_boot .len) (blt_kind .len) (blt_ok rfl .len) (eva_cons (ev_call takes0 rfl (c_hands_of.ok (hr.mono (by decide))) (eva_cons (ev_var (i := 0) rfl (vis_of rfl) rfl rfl) (eva_cons (ev_var (i := 1) rfl (vis_of rfl) rfl rfl) eva_nil rfl) rfl) rfl rfl) eva_nil rfl) rfl (blt_name .len).1 (blt_name .len).2)) rfl (by decide)) eva_nil rfl) rfl (blt_name .tuple).1 (blt_name .tuple).2)))
theorem s_fits_line : FnScope n_fits_line ["line", "length"] (defScope st_fits_line) := ⟨rfl, rfl, rfl, by decide +kernel, rfl, by decide +kernel, by decide +kernel⟩
theorem ok_fits_line {qual : Str} {f : Addr} {fd : FuncData} (F : Fun K "fits_line" qual st_fits_line f fd) (T : Txt K w mg) (c_is_from : Cal P w K mg base "is_from" 3 f_is_from 2) : FnOk P w K mg base (L2N.CX P w) 3 f fd ["line", "length"] (spOf K mg 2 f_fits_line) := by
  refine fn_ok (k := 2) F s_fits_line fun cdv A outer s H E hr => ?_
  have hu := hr.units
  have sN := s_fits_line.nd
  have tk : L2N.Takes (cxOf (L2N.CX P w) P w K mg base n_fits_line qual (defScope st_fits_line) f cdv A outer s H E) (fun cls dx _ H => E cls dx H) := L2N.takes_of rfl rfl rfl rfl
  have pw : PassesOwn (model P w) (A.deeper (envOfC qual (defScope st_fits_line) s.heap.objs.size f cdv)) (cxOf (L2N.CX P w) P w K mg base n_fits_line qual (defScope st_fits_line) f cdv A outer s H E).env (cxOf (L2N.CX P w) P w K mg base n_fits_line qual (defScope st_fits_line) f cdv A outer s H E).xe := passes_of rfl
  exact (evs_cons (evs_if (EvTs.t (evts_or (evt_not (evt_plain (ev_isi (T := .tuple) rfl T.b_isinstance rfl T.b_tuple (ev_var (i := 0) rfl (vis_of rfl) rfl rfl) rfl) rfl)) (evts_or (evt_cmp hu (ev_blt rfl T.b_len (blt_boot .len) (blt_kind .len) (blt_ok rfl .len) (eva_cons (ev_var (i := 0) rfl (vis_of rfl) rfl rfl) eva_nil rfl) rfl (blt_name .len).1 (blt_name .len).2) ev_int rfl) evts_or_nil)))
  (evs_one (evs_ret ev_bl))
  evs_nil)
  (evs_cons (evs_if (EvTs.t (evts_or (evt_not (evt_plain (ev_call tk rfl (c_is_from.ok (hr.mono (by decide))) (eva_cons (ev_idx (ev_var (i := 0) rfl (vis_of rfl) rfl rfl) ev_int rfl) (eva_cons ev_int (eva_cons ev_int eva_nil rfl) rfl) rfl) rfl rfl) rfl)) (evts_or (evt_not (evt_plain (ev_call tk rfl (c_is_from.ok (hr.mono (by decide))) (eva_cons (ev_idx (ev_var (i := 0) rfl (vis_of rfl) rfl rfl) ev_int rfl) (eva_cons ev_int (eva_cons (ev_var (i := 1) rfl (vis_of rfl) rfl rfl) eva_nil rfl) rfl) rfl) rfl rfl) rfl)) evts_or_nil)))
  (evs_one (evs_ret ev_bl))
  evs_nil)
  (evs_one (evs_ret (ev_and (ev_blt rfl T.b_all (blt_boot .all) (blt_kind .all) (blt_ok rfl .all) (eva_cons (ev_comp (own := [("box", 2)]) rfl sN (evi_val (ev_cut (ev_var (i := 0) rfl (vis_of rfl) rfl rfl) (evo_some ev_int) (evo_some ev_int))) (blkOk_by (show blkC n_fits_line (defScope st_fits_line) _ _ = true by decide +kernel)) (fun s H C cl fp => (evg_name (i := 2) sN rfl (loc_of rfl) (by first | exact .inr rfl | exact .inl rfl))) (fun s H C cl fp => evtf_nil) (fun s H C cl fp => (ev_call takes0 rfl (c_is_from.ok (hr.mono (by decide))) (eva_cons (ev_var (i := 2) rfl (vis_of rfl) rfl rfl) (eva_cons ev_int (eva_cons ev_int eva_nil rfl) rfl) rfl) rfl rfl)) rfl (by decide)) eva_nil rfl) rfl (blt_name .all).1 (blt_name .all).2) (ev_one (ev_cmp hu (ev_idx (ev_var (i := 0) rfl (vis_of rfl) rfl rfl) ev_int rfl) (ev_idx (ev_var (i := 0) rfl (vis_of rfl) rfl rfl) ev_int rfl) rfl)))))))
theorem s_fits_lines : FnScope n_fits_lines ["lines", "length"] (defScope st_fits_lines) := ⟨rfl, rfl, rfl, by decide +kernel, rfl, by decide +kernel, by decide +kernel⟩
theorem ok_fits_lines {qual : Str} {f : Addr} {fd : FuncData} (F : Fun K "fits_lines" qual st_fits_lines f fd) (T : Txt K w mg) (c_fits_line : Cal P w K mg base "fits_line" 2 f_fits_line 3) : FnOk P w K mg base (L2N.CX P w) 4 f fd ["lines", "length"] (spOf K mg 2 f_fits_lines) := by
  refine fn_ok (k := 3) F s_fits_lines fun cdv A outer s H E hr => ?_
  have hu := hr.units
  have sN := s_fits_lines.nd
  have tk : L2N.Takes (cxOf (L2N.CX P w) P w K mg base n_fits_lines qual (defScope st_fits_lines) f cdv A outer s H E) (fun cls dx _ H => E cls dx H) := L2N.takes_of rfl rfl rfl rfl
  have pw : PassesOwn (model P w) (A.deeper (envOfC qual (defScope st_fits_lines) s.heap.objs.size f cdv)) (cxOf (L2N.CX P w) P w K mg base n_fits_lines qual (defScope st_fits_lines) f cdv A outer s H E).env (cxOf (L2N.CX P w) P w K mg base n_fits_lines qual (defScope st_fits_lines) f cdv A outer s H E).xe := passes_of rfl
  exact (evs_cons (evs_if (EvTs.t (evts_or (evt_not (evt_plain (ev_isi (T := .tuple) rfl T.b_isinstance rfl T.b_tuple (ev_var (i := 0) rfl (vis_of rfl) rfl rfl) rfl) rfl)) (evts_or (evt_cmp hu (ev_var (i := 0) rfl (vis_of rfl) rfl rfl) (ev_tup eva_nil) rfl) evts_or_nil)))
  (evs_one (evs_ret ev_bl))
  evs_nil)
  (evs_cons (evs_if (evt_not (evt_plain (ev_blt rfl T.b_all (blt_boot .all) (blt_kind .all) (blt_ok rfl .all) (eva_cons (ev_comp (own := [("line", 2)]) rfl sN (evi_val (ev_var (i := 0) rfl (vis_of rfl) rfl rfl)) (blkOk_by (show blkC n_fits_lines (defScope st_fits_lines) _ _ = true by decide +kernel)) (fun s H C cl fp => (evg_name (i := 2) sN rfl (loc_of rfl) (by first | exact .inr rfl | exact .inl rfl))) (fun s H C cl fp => evtf_nil) (fun s H C cl fp => (ev_call takes0 rfl (c_fits_line.ok (hr.mono (by decide))) (eva_cons (ev_var (i := 2) rfl (vis_of rfl) rfl rfl) (eva_cons (ev_var (i := 1) rfl (vis_of rfl) rfl rfl) eva_nil rfl) rfl) rfl rfl)) rfl (by decide)) eva_nil rfl) rfl (blt_name .all).1 (blt_name .all).2) rfl))
  (evs_one (evs_ret ev_bl))
  evs_nil)
  (evs_one (evs_ret (ev_cmp hu (ev_lenSet rfl rfl T.b_len rfl T.b_set (ev_comp (own := [("line", 2)]) rfl sN (evi_val (ev_var (i := 0) rfl (vis_of rfl) rfl rfl)) (blkOk_by (show blkC n_fits_lines (defScope st_fits_lines) _ _ = true by decide +kernel)) (fun s H C cl fp => (evg_name (i := 2) sN rfl (loc_of rfl) (by first | exact .inr rfl | exact .inl rfl))) (fun s H C cl fp => evtf_nil) (fun s H C cl fp => (ev_idx (ev_var (i := 2) rfl (vis_of rfl) rfl rfl) ev_int rfl)) rfl (by decide)) rfl) (ev_blt rfl T.b_len (blt_boot .len) (blt_kind .len) (blt_ok rfl .len) (eva_cons (ev_var (i := 0) rfl (vis_of rfl) rfl rfl) eva_nil rfl) rfl (blt_name .len).1 (blt_name .len).2) rfl)))))
theorem s_fits : FnScope n_fits ["sort", "thing", "length", "counts"] (defScope st_fits) := ⟨rfl, rfl, rfl, by decide +kernel, rfl, by decide +kernel, by decide +kernel⟩
theorem ok_fits {qual : Str} {f : Addr} {fd : FuncData} (F : Fun K "fits" qual st_fits f fd) (T : Txt K w mg) (c_is_whole : Cal P w K mg base "is_whole" 1 f_is_whole 1) (c_fits_lines : Cal P w K mg base "fits_lines" 2 f_fits_lines 4) (c_is_from : Cal P w K mg base "is_from" 3 f_is_from 2) : FnOk P w K mg base (L2N.CX P w) 5 f fd ["sort", "thing", "length", "counts"] (spOf K mg 4 f_fits) := by
  refine fn_ok (k := 4) F s_fits fun cdv A outer s H E hr => ?_
  have hu := hr.units
  have sN := s_fits.nd
  have tk : L2N.Takes (cxOf (L2N.CX P w) P w K mg base n_fits qual (defScope st_fits) f cdv A outer s H E) (fun cls dx _ H => E cls dx H) := L2N.takes_of rfl rfl rfl rfl
  have pw : PassesOwn (model P w) (A.deeper (envOfC qual (defScope st_fits) s.heap.objs.size f cdv)) (cxOf (L2N.CX P w) P w K mg base n_fits qual (defScope st_fits) f cdv A outer s H E).env (cxOf (L2N.CX P w) P w K mg base n_fits qual (defScope st_fits) f cdv A outer s H E).xe := passes_of rfl
  exact (evs_cons (evs_if (evt_cmp hu (ev_var (i := 0) rfl (vis_of rfl) rfl rfl) ev_str rfl)
  (evs_one (evs_ret (ev_call tk rfl (c_is_whole.ok (hr.mono (by decide))) (eva_cons (ev_var (i := 1) rfl (vis_of rfl) rfl rfl) eva_nil rfl) rfl rfl)))
  evs_nil)
  (evs_cons (evs_if (evt_cmp hu (ev_var (i := 0) rfl (vis_of rfl) rfl rfl) ev_str rfl)
  (evs_one (evs_ret (ev_call tk rfl (c_fits_lines.ok (hr.mono (by decide))) (eva_cons (ev_var (i := 1) rfl (vis_of rfl) rfl rfl) (eva_cons (ev_var (i := 2) rfl (vis_of rfl) rfl rfl) eva_nil rfl) rfl) rfl rfl)))
  evs_nil)
  (evs_cons (evs_if (evt_cmp hu (ev_var (i := 0) rfl (vis_of rfl) rfl rfl) ev_str rfl)
  (evs_one (evs_ret (ev_and (ev_call tk rfl (c_is_from.ok (hr.mono (by decide))) (eva_cons (ev_var (i := 1) rfl (vis_of rfl) rfl rfl) (eva_cons ev_int (eva_cons (ev_bin (ev_blt rfl T.b_len (blt_boot .len) (blt_kind .len) (blt_ok rfl .len) (eva_cons (ev_var (i := 3) rfl (vis_of rfl) rfl rfl) eva_nil rfl) rfl (blt_name .len).1 (blt_name .len).2) ev_int) eva_nil rfl) rfl) rfl) rfl rfl) (ev_one (ev_cmp hu (ev_idx (ev_var (i := 3) rfl (vis_of rfl) rfl rfl) (ev_var (i := 1) rfl (vis_of rfl) rfl rfl) rfl) ev_int rfl)))))
  evs_nil)
  (evs_cons (evs_set (i := 4) sN rfl (loc_of rfl) (.inl rfl) (ev_dict (evd_cons (ev_tup (eva_cons ev_int (eva_cons ev_int eva_nil rfl) rfl)) (evd_cons (ev_tup (eva_cons ev_int (eva_cons ev_int eva_nil rfl) rfl)) (evd_cons (ev_tup (eva_cons ev_int (eva_cons (ev_var (i := 2) rfl (vis_of rfl) rfl rfl) eva_nil rfl) rfl)) (evd_cons (ev_tup (eva_cons ev_int (eva_cons ev_int eva_nil rfl) rfl)) (evd_cons (ev_tup (eva_cons ev_int (eva_cons ev_int eva_nil rfl) rfl)) evd_nil))))) (fun z => nomatch z) (by decide) (by decide +kernel)) rfl)
  (evs_cons (evs_expr (ev_upd (ev_var (i := 4) rfl (vis_of rfl) rfl rfl) (ev_dict (evd_cons (ev_tup (eva_cons ev_int (eva_cons ev_int eva_nil rfl) rfl)) (evd_cons (ev_tup (eva_cons (ev_neg ev_int) (eva_cons ev_int eva_nil rfl) rfl)) (evd_cons (ev_tup (eva_cons ev_int (eva_cons (ev_bin (ev_blt rfl T.b_len (blt_boot .len) (blt_kind .len) (blt_ok rfl .len) (eva_cons (ev_var (i := 3) rfl (vis_of rfl) rfl rfl) eva_nil rfl) rfl (blt_name .len).1 (blt_name .len).2) ev_int) eva_nil rfl) rfl)) evd_nil))) (fun z => nomatch z) (by decide) (by decide +kernel)) rfl rfl rfl) rfl)
  (evs_one (evs_ret (ev_call tk rfl (c_is_from.ok (hr.mono (by decide))) (eva_cons (ev_var (i := 1) rfl (vis_of rfl) rfl rfl) (eva_cons (ev_idx (ev_dget hu (ev_var (i := 4) rfl (vis_of rfl) rfl rfl) (ev_var (i := 0) rfl (vis_of rfl) rfl rfl) rfl) ev_int rfl) (eva_cons (ev_idx (ev_dget hu (ev_var (i := 4) rfl (vis_of rfl) rfl rfl) (ev_var (i := 0) rfl (vis_of rfl) rfl rfl) rfl) ev_int rfl) eva_nil rfl) rfl) rfl) rfl rfl))))))))
theorem s_sure : FnScope n_sure ["told", "length", "counts"] (defScope st_sure) := ⟨rfl, rfl, rfl, by decide +kernel, rfl, by decide +kernel, by decide +kernel⟩
theorem ok_sure {qual : Str} {f : Addr} {fd : FuncData} (F : Fun K "sure" qual st_sure f fd) (T : Txt K w mg) (c_fits : Cal P w K mg base "fits" 4 f_fits 5) : FnOk P w K mg base (L2N.CX P w) 6 f fd ["told", "length", "counts"] (spOf K mg 3 f_sure) := by
  refine fn_ok (k := 5) F s_sure fun cdv A outer s H E hr => ?_
  have hu := hr.units
  have sN := s_sure.nd
  have tk : L2N.Takes (cxOf (L2N.CX P w) P w K mg base n_sure qual (defScope st_sure) f cdv A outer s H E) (fun cls dx _ H => E cls dx H) := L2N.takes_of rfl rfl rfl rfl
  have pw : PassesOwn (model P w) (A.deeper (envOfC qual (defScope st_sure) s.heap.objs.size f cdv)) (cxOf (L2N.CX P w) P w K mg base n_sure qual (defScope st_sure) f cdv A outer s H E).env (cxOf (L2N.CX P w) P w K mg base n_sure qual (defScope st_sure) f cdv A outer s H E).xe := passes_of rfl
  exact (evs_cons (evs_if (EvTs.t (evts_or (evt_not (evt_plain (ev_isi (T := .tuple) rfl T.b_isinstance rfl T.b_tuple (ev_var (i := 0) rfl (vis_of rfl) rfl rfl) rfl) rfl)) (evts_or (evt_cmp hu (ev_var (i := 0) rfl (vis_of rfl) rfl rfl) (ev_tup eva_nil) rfl) (evts_or (evt_not (evt_plain (ev_isi (T := .str) rfl T.b_isinstance rfl T.b_str (ev_idx (ev_var (i := 0) rfl (vis_of rfl) rfl rfl) ev_int rfl) rfl) rfl)) (evts_or (evt_cnotinT rfl T.g_FORMS (ev_idx (ev_var (i := 0) rfl (vis_of rfl) rfl rfl) ev_int rfl) rfl) evts_or_nil)))))
  (evs_one (evs_raise rfl tk T.e_NoStep.ok rfl rfl))
  evs_nil)
  (evs_cons (evs_set (i := 3) sN rfl (loc_of rfl) (.inl rfl) (ev_cgetT rfl T.g_FORMS (ev_idx (ev_var (i := 0) rfl (vis_of rfl) rfl rfl) ev_int rfl) rfl rfl) rfl)
  (evs_cons (evs_if (evt_cmp hu (ev_blt rfl T.b_len (blt_boot .len) (blt_kind .len) (blt_ok rfl .len) (eva_cons (ev_var (i := 0) rfl (vis_of rfl) rfl rfl) eva_nil rfl) rfl (blt_name .len).1 (blt_name .len).2) (ev_bin (ev_blt rfl T.b_len (blt_boot .len) (blt_kind .len) (blt_ok rfl .len) (eva_cons (ev_var (i := 3) rfl (vis_of rfl) rfl rfl) eva_nil rfl) rfl (blt_name .len).1 (blt_name .len).2) ev_int) rfl)
  (evs_one (evs_raise rfl tk T.e_NoStep.ok rfl rfl))
  evs_nil)
  (evs_one (evs_for pw rfl (evi_zip rfl T.b_zip (ev_var (i := 3) rfl (vis_of rfl) rfl rfl) rfl (ev_cut (ev_var (i := 0) rfl (vis_of rfl) rfl rfl) (evo_some ev_int) evo_none) rfl) (evg_tup rfl (evgs_cons (evg_name (i := 4) sN rfl (loc_of rfl) (.inl rfl)) (evgs_cons (evg_name (i := 5) sN rfl (loc_of rfl) (.inl rfl)) evgs_nil rfl) rfl) rfl rfl)
  (evs_one (evs_if (evt_not (evt_plain (ev_call tk rfl (c_fits.ok (hr.mono (by decide))) (eva_cons (ev_var (i := 4) rfl (vis_of rfl) rfl rfl) (eva_cons (ev_var (i := 5) rfl (vis_of rfl) rfl rfl) (eva_cons (ev_var (i := 1) rfl (vis_of rfl) rfl rfl) (eva_cons (ev_var (i := 2) rfl (vis_of rfl) rfl rfl) eva_nil rfl) rfl) rfl) rfl) rfl rfl) rfl))
  (evs_one (evs_raise rfl tk T.e_NoStep.ok rfl rfl))
  evs_nil)) rfl)))))
theorem s_Step___init__ : FnScope n_Step___init__ ["self", "form"] (defScope st_Step___init__) := ⟨rfl, rfl, rfl, by decide +kernel, rfl, by decide +kernel, by decide +kernel⟩
theorem ok_Step___init__ {qual : Str} {f : Addr} {fd : FuncData} (F : Fun K "__init__" qual st_Step___init__ f fd) (T : Txt K w mg)  : FnOk P w K mg base (L2N.CX P w) 1 f fd ["self", "form"] (spOf K mg 2 f_Step___init__) := by
  refine fn_ok (k := 0) F s_Step___init__ fun cdv A outer s H E hr => ?_
  have hu := hr.units
  have sN := s_Step___init__.nd
  have tk : L2N.Takes (cxOf (L2N.CX P w) P w K mg base n_Step___init__ qual (defScope st_Step___init__) f cdv A outer s H E) (fun cls dx _ H => E cls dx H) := L2N.takes_of rfl rfl rfl rfl
  have pw : PassesOwn (model P w) (A.deeper (envOfC qual (defScope st_Step___init__) s.heap.objs.size f cdv)) (cxOf (L2N.CX P w) P w K mg base n_Step___init__ qual (defScope st_Step___init__) f cdv A outer s H E).env (cxOf (L2N.CX P w) P w K mg base n_Step___init__ qual (defScope st_Step___init__) f cdv A outer s H E).xe := passes_of rfl
  exact (evs_one (evs_fld T.f_form.fld (ev_var (i := 1) rfl (vis_of rfl) rfl rfl) (ev_var (i := 0) rfl (vis_of rfl) rfl rfl) rfl))
theorem s_number_step : FnScope n_number_step ["told"] (defScope st_number_step) := ⟨rfl, rfl, rfl, by decide +kernel, rfl, by decide +kernel, by decide +kernel⟩
theorem ok_number_step {qual : Str} {f : Addr} {fd : FuncData} (F : Fun K "number_step" qual st_number_step f fd) (T : Txt K w mg) (k_Put : MkC P w K mg base "Put" 2 f_Step___init__ 1) (k_Copy : MkC P w K mg base "Copy" 2 f_Step___init__ 1) (k_Raise : MkC P w K mg base "Raise" 2 f_Step___init__ 1) (k_Sum : MkC P w K mg base "Sum" 2 f_Step___init__ 1) (k_Choose : MkC P w K mg base "Choose" 2 f_Step___init__ 1) (k_Less : MkC P w K mg base "Less" 2 f_Step___init__ 1) (k_Before : MkC P w K mg base "Before" 2 f_Step___init__ 1) (k_Go : MkC P w K mg base "Go" 2 f_Step___init__ 1) : FnOk P w K mg base (L2N.CX P w) 3 f fd ["told"] (spOf K mg 1 f_number_step) := by
  refine fn_ok (k := 2) F s_number_step fun cdv A outer s H E hr => ?_
  have hu := hr.units
  have sN := s_number_step.nd
  have tk : L2N.Takes (cxOf (L2N.CX P w) P w K mg base n_number_step qual (defScope st_number_step) f cdv A outer s H E) (fun cls dx _ H => E cls dx H) := L2N.takes_of rfl rfl rfl rfl
  have pw : PassesOwn (model P w) (A.deeper (envOfC qual (defScope st_number_step) s.heap.objs.size f cdv)) (cxOf (L2N.CX P w) P w K mg base n_number_step qual (defScope st_number_step) f cdv A outer s H E).env (cxOf (L2N.CX P w) P w K mg base n_number_step qual (defScope st_number_step) f cdv A outer s H E).xe := passes_of rfl
  exact (evs_cons (evs_set (i := 1) sN rfl (loc_of rfl) (.inl rfl) (ev_idx (ev_var (i := 0) rfl (vis_of rfl) rfl rfl) ev_int rfl) rfl)
  (evs_cons (evs_if (evt_cmp hu (ev_var (i := 1) rfl (vis_of rfl) rfl rfl) ev_str rfl)
  (evs_one (evs_ret (ev_make tk rfl (k_Put.ok (hr.mono (by decide))) (eva_cons (ev_var (i := 0) rfl (vis_of rfl) rfl rfl) eva_nil rfl) (fun z => nomatch z) rfl rfl)))
  evs_nil)
  (evs_cons (evs_if (evt_cmp hu (ev_var (i := 1) rfl (vis_of rfl) rfl rfl) ev_str rfl)
  (evs_one (evs_ret (ev_make tk rfl (k_Copy.ok (hr.mono (by decide))) (eva_cons (ev_var (i := 0) rfl (vis_of rfl) rfl rfl) eva_nil rfl) (fun z => nomatch z) rfl rfl)))
  evs_nil)
  (evs_cons (evs_if (evt_cmp hu (ev_var (i := 1) rfl (vis_of rfl) rfl rfl) ev_str rfl)
  (evs_one (evs_ret (ev_make tk rfl (k_Raise.ok (hr.mono (by decide))) (eva_cons (ev_var (i := 0) rfl (vis_of rfl) rfl rfl) eva_nil rfl) (fun z => nomatch z) rfl rfl)))
  evs_nil)
  (evs_cons (evs_if (evt_cmp hu (ev_var (i := 1) rfl (vis_of rfl) rfl rfl) ev_str rfl)
  (evs_one (evs_ret (ev_make tk rfl (k_Sum.ok (hr.mono (by decide))) (eva_cons (ev_var (i := 0) rfl (vis_of rfl) rfl rfl) eva_nil rfl) (fun z => nomatch z) rfl rfl)))
  evs_nil)
  (evs_cons (evs_if (evt_cmp hu (ev_var (i := 1) rfl (vis_of rfl) rfl rfl) ev_str rfl)
  (evs_one (evs_ret (ev_make tk rfl (k_Choose.ok (hr.mono (by decide))) (eva_cons (ev_var (i := 0) rfl (vis_of rfl) rfl rfl) eva_nil rfl) (fun z => nomatch z) rfl rfl)))
  evs_nil)
  (evs_cons (evs_if (evt_cmp hu (ev_var (i := 1) rfl (vis_of rfl) rfl rfl) ev_str rfl)
  (evs_one (evs_ret (ev_make tk rfl (k_Less.ok (hr.mono (by decide))) (eva_cons (ev_var (i := 0) rfl (vis_of rfl) rfl rfl) eva_nil rfl) (fun z => nomatch z) rfl rfl)))
  evs_nil)
  (evs_cons (evs_if (evt_cmp hu (ev_var (i := 1) rfl (vis_of rfl) rfl rfl) ev_str rfl)
  (evs_one (evs_ret (ev_make tk rfl (k_Before.ok (hr.mono (by decide))) (eva_cons (ev_var (i := 0) rfl (vis_of rfl) rfl rfl) eva_nil rfl) (fun z => nomatch z) rfl rfl)))
  evs_nil)
  (evs_cons (evs_if (evt_cmp hu (ev_var (i := 1) rfl (vis_of rfl) rfl rfl) ev_str rfl)
  (evs_one (evs_ret (ev_make tk rfl (k_Go.ok (hr.mono (by decide))) (eva_cons (ev_var (i := 0) rfl (vis_of rfl) rfl rfl) eva_nil rfl) (fun z => nomatch z) rfl rfl)))
  evs_nil)
  (evs_one (evs_ret ev_non)))))))))))
theorem s_name_step : FnScope n_name_step ["told"] (defScope st_name_step) := ⟨rfl, rfl, rfl, by decide +kernel, rfl, by decide +kernel, by decide +kernel⟩
theorem ok_name_step {qual : Str} {f : Addr} {fd : FuncData} (F : Fun K "name_step" qual st_name_step f fd) (T : Txt K w mg) (k_Me : MkC P w K mg base "Me" 2 f_Step___init__ 1) (k_Only : MkC P w K mg base "Only" 2 f_Step___init__ 1) (k_Pick : MkC P w K mg base "Pick" 2 f_Step___init__ 1) (k_Alike : MkC P w K mg base "Alike" 2 f_Step___init__ 1) (k_All : MkC P w K mg base "All" 2 f_Step___init__ 1) (k_Empty : MkC P w K mg base "Empty" 2 f_Step___init__ 1) (k_Join : MkC P w K mg base "Join" 2 f_Step___init__ 1) (k_Out : MkC P w K mg base "Out" 2 f_Step___init__ 1) (k_Many : MkC P w K mg base "Many" 2 f_Step___init__ 1) : FnOk P w K mg base (L2N.CX P w) 3 f fd ["told"] (spOf K mg 1 f_name_step) := by
  refine fn_ok (k := 2) F s_name_step fun cdv A outer s H E hr => ?_
  have hu := hr.units
  have sN := s_name_step.nd
  have tk : L2N.Takes (cxOf (L2N.CX P w) P w K mg base n_name_step qual (defScope st_name_step) f cdv A outer s H E) (fun cls dx _ H => E cls dx H) := L2N.takes_of rfl rfl rfl rfl
  have pw : PassesOwn (model P w) (A.deeper (envOfC qual (defScope st_name_step) s.heap.objs.size f cdv)) (cxOf (L2N.CX P w) P w K mg base n_name_step qual (defScope st_name_step) f cdv A outer s H E).env (cxOf (L2N.CX P w) P w K mg base n_name_step qual (defScope st_name_step) f cdv A outer s H E).xe := passes_of rfl
  exact (evs_cons (evs_set (i := 1) sN rfl (loc_of rfl) (.inl rfl) (ev_idx (ev_var (i := 0) rfl (vis_of rfl) rfl rfl) ev_int rfl) rfl)
  (evs_cons (evs_if (evt_cmp hu (ev_var (i := 1) rfl (vis_of rfl) rfl rfl) ev_str rfl)
  (evs_one (evs_ret (ev_make tk rfl (k_Me.ok (hr.mono (by decide))) (eva_cons (ev_var (i := 0) rfl (vis_of rfl) rfl rfl) eva_nil rfl) (fun z => nomatch z) rfl rfl)))
  evs_nil)
  (evs_cons (evs_if (evt_cmp hu (ev_var (i := 1) rfl (vis_of rfl) rfl rfl) ev_str rfl)
  (evs_one (evs_ret (ev_make tk rfl (k_Only.ok (hr.mono (by decide))) (eva_cons (ev_var (i := 0) rfl (vis_of rfl) rfl rfl) eva_nil rfl) (fun z => nomatch z) rfl rfl)))
  evs_nil)
  (evs_cons (evs_if (evt_cmp hu (ev_var (i := 1) rfl (vis_of rfl) rfl rfl) ev_str rfl)
  (evs_one (evs_ret (ev_make tk rfl (k_Pick.ok (hr.mono (by decide))) (eva_cons (ev_var (i := 0) rfl (vis_of rfl) rfl rfl) eva_nil rfl) (fun z => nomatch z) rfl rfl)))
  evs_nil)
  (evs_cons (evs_if (evt_cmp hu (ev_var (i := 1) rfl (vis_of rfl) rfl rfl) ev_str rfl)
  (evs_one (evs_ret (ev_make tk rfl (k_Alike.ok (hr.mono (by decide))) (eva_cons (ev_var (i := 0) rfl (vis_of rfl) rfl rfl) eva_nil rfl) (fun z => nomatch z) rfl rfl)))
  evs_nil)
  (evs_cons (evs_if (evt_cmp hu (ev_var (i := 1) rfl (vis_of rfl) rfl rfl) ev_str rfl)
  (evs_one (evs_ret (ev_make tk rfl (k_All.ok (hr.mono (by decide))) (eva_cons (ev_var (i := 0) rfl (vis_of rfl) rfl rfl) eva_nil rfl) (fun z => nomatch z) rfl rfl)))
  evs_nil)
  (evs_cons (evs_if (evt_cmp hu (ev_var (i := 1) rfl (vis_of rfl) rfl rfl) ev_str rfl)
  (evs_one (evs_ret (ev_make tk rfl (k_Empty.ok (hr.mono (by decide))) (eva_cons (ev_var (i := 0) rfl (vis_of rfl) rfl rfl) eva_nil rfl) (fun z => nomatch z) rfl rfl)))
  evs_nil)
  (evs_cons (evs_if (evt_cmp hu (ev_var (i := 1) rfl (vis_of rfl) rfl rfl) ev_str rfl)
  (evs_one (evs_ret (ev_make tk rfl (k_Join.ok (hr.mono (by decide))) (eva_cons (ev_var (i := 0) rfl (vis_of rfl) rfl rfl) eva_nil rfl) (fun z => nomatch z) rfl rfl)))
  evs_nil)
  (evs_cons (evs_if (evt_cmp hu (ev_var (i := 1) rfl (vis_of rfl) rfl rfl) ev_str rfl)
  (evs_one (evs_ret (ev_make tk rfl (k_Out.ok (hr.mono (by decide))) (eva_cons (ev_var (i := 0) rfl (vis_of rfl) rfl rfl) eva_nil rfl) (fun z => nomatch z) rfl rfl)))
  evs_nil)
  (evs_cons (evs_if (evt_cmp hu (ev_var (i := 1) rfl (vis_of rfl) rfl rfl) ev_str rfl)
  (evs_one (evs_ret (ev_make tk rfl (k_Many.ok (hr.mono (by decide))) (eva_cons (ev_var (i := 0) rfl (vis_of rfl) rfl rfl) eva_nil rfl) (fun z => nomatch z) rfl rfl)))
  evs_nil)
  (evs_one (evs_ret ev_non))))))))))))
theorem s_letter_step : FnScope n_letter_step ["told"] (defScope st_letter_step) := ⟨rfl, rfl, rfl, by decide +kernel, rfl, by decide +kernel, by decide +kernel⟩
theorem ok_letter_step {qual : Str} {f : Addr} {fd : FuncData} (F : Fun K "letter_step" qual st_letter_step f fd) (T : Txt K w mg) (k_Send : MkC P w K mg base "Send" 2 f_Step___init__ 1) (k_Take : MkC P w K mg base "Take" 2 f_Step___init__ 1) (k_Bell : MkC P w K mg base "Bell" 2 f_Step___init__ 1) : FnOk P w K mg base (L2N.CX P w) 3 f fd ["told"] (spOf K mg 1 f_letter_step) := by
  refine fn_ok (k := 2) F s_letter_step fun cdv A outer s H E hr => ?_
  have hu := hr.units
  have sN := s_letter_step.nd
  have tk : L2N.Takes (cxOf (L2N.CX P w) P w K mg base n_letter_step qual (defScope st_letter_step) f cdv A outer s H E) (fun cls dx _ H => E cls dx H) := L2N.takes_of rfl rfl rfl rfl
  have pw : PassesOwn (model P w) (A.deeper (envOfC qual (defScope st_letter_step) s.heap.objs.size f cdv)) (cxOf (L2N.CX P w) P w K mg base n_letter_step qual (defScope st_letter_step) f cdv A outer s H E).env (cxOf (L2N.CX P w) P w K mg base n_letter_step qual (defScope st_letter_step) f cdv A outer s H E).xe := passes_of rfl
  exact (evs_cons (evs_if (evt_cmp hu (ev_idx (ev_var (i := 0) rfl (vis_of rfl) rfl rfl) ev_int rfl) ev_str rfl)
  (evs_one (evs_ret (ev_make tk rfl (k_Send.ok (hr.mono (by decide))) (eva_cons (ev_var (i := 0) rfl (vis_of rfl) rfl rfl) eva_nil rfl) (fun z => nomatch z) rfl rfl)))
  evs_nil)
  (evs_cons (evs_if (evt_cmp hu (ev_idx (ev_var (i := 0) rfl (vis_of rfl) rfl rfl) ev_int rfl) ev_str rfl)
  (evs_one (evs_ret (ev_make tk rfl (k_Take.ok (hr.mono (by decide))) (eva_cons (ev_var (i := 0) rfl (vis_of rfl) rfl rfl) eva_nil rfl) (fun z => nomatch z) rfl rfl)))
  evs_nil)
  (evs_one (evs_ret (ev_make tk rfl (k_Bell.ok (hr.mono (by decide))) (eva_cons (ev_var (i := 0) rfl (vis_of rfl) rfl rfl) eva_nil rfl) (fun z => nomatch z) rfl rfl)))))
theorem s_step_of : FnScope n_step_of ["told", "length", "counts"] (defScope st_step_of) := ⟨rfl, rfl, rfl, by decide +kernel, rfl, by decide +kernel, by decide +kernel⟩
theorem ok_step_of {qual : Str} {f : Addr} {fd : FuncData} (F : Fun K "step_of" qual st_step_of f fd) (T : Txt K w mg) (c_sure : Cal P w K mg base "sure" 3 f_sure 6) (c_number_step : Cal P w K mg base "number_step" 1 f_number_step 3) (c_name_step : Cal P w K mg base "name_step" 1 f_name_step 3) (c_letter_step : Cal P w K mg base "letter_step" 1 f_letter_step 3) : FnOk P w K mg base (L2N.CX P w) 7 f fd ["told", "length", "counts"] (spOf K mg 3 f_step_of) := by
  refine fn_ok (k := 6) F s_step_of fun cdv A outer s H E hr => ?_
  have hu := hr.units
  have sN := s_step_of.nd
  have tk : L2N.Takes (cxOf (L2N.CX P w) P w K mg base n_step_of qual (defScope st_step_of) f cdv A outer s H E) (fun cls dx _ H => E cls dx H) := L2N.takes_of rfl rfl rfl rfl
  have pw : PassesOwn (model P w) (A.deeper (envOfC qual (defScope st_step_of) s.heap.objs.size f cdv)) (cxOf (L2N.CX P w) P w K mg base n_step_of qual (defScope st_step_of) f cdv A outer s H E).env (cxOf (L2N.CX P w) P w K mg base n_step_of qual (defScope st_step_of) f cdv A outer s H E).xe := passes_of rfl
  exact (evs_cons (evs_expr (ev_call tk rfl (c_sure.ok (hr.mono (by decide))) (eva_cons (ev_var (i := 0) rfl (vis_of rfl) rfl rfl) (eva_cons (ev_var (i := 1) rfl (vis_of rfl) rfl rfl) (eva_cons (ev_var (i := 2) rfl (vis_of rfl) rfl rfl) eva_nil rfl) rfl) rfl) rfl rfl) rfl)
  (evs_cons (evs_set (i := 3) sN rfl (loc_of rfl) (.inl rfl) (ev_call tk rfl (c_number_step.ok (hr.mono (by decide))) (eva_cons (ev_var (i := 0) rfl (vis_of rfl) rfl rfl) eva_nil rfl) rfl rfl) rfl)
  (evs_cons (evs_if (evt_cmp hu (ev_var (i := 3) rfl (vis_of rfl) rfl rfl) ev_non rfl)
  (evs_one (evs_set (i := 3) sN rfl (loc_of rfl) (.inl rfl) (ev_call tk rfl (c_name_step.ok (hr.mono (by decide))) (eva_cons (ev_var (i := 0) rfl (vis_of rfl) rfl rfl) eva_nil rfl) rfl rfl) rfl))
  evs_nil)
  (evs_cons (evs_if (evt_cmp hu (ev_var (i := 3) rfl (vis_of rfl) rfl rfl) ev_non rfl)
  (evs_one (evs_set (i := 3) sN rfl (loc_of rfl) (.inl rfl) (ev_call tk rfl (c_letter_step.ok (hr.mono (by decide))) (eva_cons (ev_var (i := 0) rfl (vis_of rfl) rfl rfl) eva_nil rfl) rfl rfl) rfl))
  evs_nil)
  (evs_one (evs_ret (ev_var (i := 3) rfl (vis_of rfl) rfl rfl)))))))
theorem s_look_over : FnScope n_look_over ["program"] (defScope st_look_over) := ⟨rfl, rfl, rfl, by decide +kernel, rfl, by decide +kernel, by decide +kernel⟩
theorem ok_look_over {qual : Str} {f : Addr} {fd : FuncData} (F : Fun K "look_over" qual st_look_over f fd) (T : Txt K w mg) (c_is_whole_program : Cal P w K mg base "is_whole_program" 1 f_is_whole_program 3) (c_counts_of : Cal P w K mg base "counts_of" 1 f_counts_of 2) (c_step_of : Cal P w K mg base "step_of" 3 f_step_of 7) (xh_NoProgram : XH2 P w K mg base "NoProgram" "role" "place") (xi_NoProgram : XI2 P w K mg base "NoProgram" "role" "place") : FnOk P w K mg base (L2.CX P w) 8 f fd ["program"] (spOf K mg 1 f_look_over) := by
  refine fn_okX (k := 7) F s_look_over fun cdv A outer s H E hr => ?_
  have hu := hr.units
  have sN := s_look_over.nd
  have tkx : L2.Takes (cxOf (L2.CX P w) P w K mg base n_look_over qual (defScope st_look_over) f cdv A outer s H E) (fun cls dx _ H => E cls dx H) := L2.takes_of rfl rfl rfl rfl
  have tk := takesN tkx
  have pw : PassesOwn (model P w) (A.deeper (envOfC qual (defScope st_look_over) s.heap.objs.size f cdv)) (cxOf (L2.CX P w) P w K mg base n_look_over qual (defScope st_look_over) f cdv A outer s H E).env (cxOf (L2.CX P w) P w K mg base n_look_over qual (defScope st_look_over) f cdv A outer s H E).xe := passes_of rfl
  exact (evs_cons (evs_if (evt_not (evt_plain (ev_call tk rfl (c_is_whole_program.ok (hr.mono (by decide))) (eva_cons (ev_var (i := 0) rfl (vis_of rfl) rfl rfl) eva_nil rfl) rfl rfl) rfl))
  (evs_one (evs_raise2 rfl tk xi_NoProgram.ok (hr.mono (by decide)) rfl (ev_neg ev_int) (ev_neg ev_int) rfl rfl rfl))
  evs_nil)
  (evs_cons (evs_set (i := 1) sN rfl (loc_of rfl) (.inl rfl) (ev_call tk rfl (c_counts_of.ok (hr.mono (by decide))) (eva_cons (ev_var (i := 0) rfl (vis_of rfl) rfl rfl) eva_nil rfl) rfl rfl) rfl)
  (evs_one (evs_for pw rfl (evi_enum rfl T.b_enumerate (ev_idx (ev_var (i := 0) rfl (vis_of rfl) rfl rfl) ev_int rfl) rfl) (evg_tup rfl (evgs_cons (evg_name (i := 2) sN rfl (loc_of rfl) (.inl rfl)) (evgs_cons (evg_name (i := 3) sN rfl (loc_of rfl) (.inl rfl)) evgs_nil rfl) rfl) rfl rfl)
  (evs_one (evs_for pw rfl (evi_enum rfl T.b_enumerate (ev_var (i := 3) rfl (vis_of rfl) rfl rfl) rfl) (evg_tup rfl (evgs_cons (evg_name (i := 4) sN rfl (loc_of rfl) (.inl rfl)) (evgs_cons (evg_name (i := 5) sN rfl (loc_of rfl) (.inl rfl)) evgs_nil rfl) rfl) rfl rfl)
  (evs_one (evs_tryRT rfl rfl rfl rfl T.h_NoStep (fun hd => L2H.passesAt_of rfl hd) tkx (fun W pn xe tk pw => (evs_one (evs_expr (ev_call tk rfl (c_step_of.ok (hr.mono (by decide))) (eva_cons (ev_var (i := 5) rfl (vis_of rfl) rfl rfl) (eva_cons (ev_blt rfl T.b_len (blt_boot .len) (blt_kind .len) (blt_ok rfl .len) (eva_cons (ev_var (i := 3) rfl (vis_of rfl) rfl rfl) eva_nil rfl) rfl (blt_name .len).1 (blt_name .len).2) (eva_cons (ev_var (i := 1) rfl (vis_of rfl) rfl rfl) eva_nil rfl) rfl) rfl) rfl rfl) rfl))) (fun a oe pn tkx ho => (evs_one (evs_raise2H ho tkx xh_NoProgram.ok (L2H.roomH_mark (hr.mono (by decide)) _) rfl (ev_var (i := 2) rfl (vis_of rfl) rfl rfl) (ev_var (i := 4) rfl (vis_of rfl) rfl rfl) rfl rfl rfl))))) rfl)) rfl))))
theorem s_law : FnScope n_law ["_law_script"] (defScope st_law) := ⟨rfl, rfl, rfl, by decide +kernel, rfl, by decide +kernel, by decide +kernel⟩
theorem ok_law {qual : Str} {f : Addr} {fd : FuncData} (F : Fun K "law" qual st_law f fd) (T : Txt K w mg) (c__law_program : Cal P w K mg base "_law_program" 1 f__law_program 4) (c__law_spots : Cal P w K mg base "_law_spots" 1 f__law_spots 1) (c__law_cell_at : Cal P w K mg base "_law_cell_at" 2 f__law_cell_at 1) (c__law_digit : Cal P w K mg base "_law_digit" 2 f__law_digit 1) (c__law_bad : Cal P w K mg base "_law_bad" 3 f__law_bad 1) (c_look_over : CalX P w K mg base "look_over" 1 f_look_over 8) : FnOk P w K mg base (L2.CX P w) 9 f fd ["_law_script"] (spOf K mg 1 f_law) := by
  refine fn_okX (k := 8) F s_law fun cdv A outer s H E hr => ?_
  have hu := hr.units
  have sN := s_law.nd
  have tkx : L2.Takes (cxOf (L2.CX P w) P w K mg base n_law qual (defScope st_law) f cdv A outer s H E) (fun cls dx _ H => E cls dx H) := L2.takes_of rfl rfl rfl rfl
  have tk := takesN tkx
  have pw : PassesOwn (model P w) (A.deeper (envOfC qual (defScope st_law) s.heap.objs.size f cdv)) (cxOf (L2.CX P w) P w K mg base n_law qual (defScope st_law) f cdv A outer s H E).env (cxOf (L2.CX P w) P w K mg base n_law qual (defScope st_law) f cdv A outer s H E).xe := passes_of rfl
  exact (evs_cons (evs_set (i := 1) sN rfl (loc_of rfl) (.inl rfl) (ev_call tk rfl (c__law_program.ok (hr.mono (by decide))) (eva_cons (ev_var (i := 0) rfl (vis_of rfl) rfl rfl) eva_nil rfl) rfl rfl) rfl)
  (evs_cons (evs_set (i := 2) sN rfl (loc_of rfl) (.inl rfl) (ev_call tk rfl (c__law_spots.ok (hr.mono (by decide))) (eva_cons (ev_var (i := 1) rfl (vis_of rfl) rfl rfl) eva_nil rfl) rfl rfl) rfl)
  (evs_cons (evs_set (i := 3) sN rfl (loc_of rfl) (.inl rfl) (ev_lst (eva_cons (ev_bin (ev_call tk rfl (c__law_cell_at.ok (hr.mono (by decide))) (eva_cons (ev_var (i := 0) rfl (vis_of rfl) rfl rfl) (eva_cons ev_int eva_nil rfl) rfl) rfl rfl) ev_int) eva_nil rfl)) rfl)
  (evs_cons (evs_set (i := 4) sN rfl (loc_of rfl) (.inl rfl) (ev_lst eva_nil) rfl)
  (evs_cons (evs_for pw rfl (evi_range1 rfl T.b_range (ev_bin (ev_call tk rfl (c__law_cell_at.ok (hr.mono (by decide))) (eva_cons (ev_var (i := 0) rfl (vis_of rfl) rfl rfl) (eva_cons ev_int eva_nil rfl) rfl) rfl rfl) ev_int) rfl) (evg_name (i := 5) sN rfl (loc_of rfl) (.inl rfl))
  (evs_one (evs_if (evt_cmp hu (ev_var (i := 2) rfl (vis_of rfl) rfl rfl) (ev_lst eva_nil) rfl)
  (evs_cons (evs_set (i := 6) sN rfl (loc_of rfl) (.inl rfl) (ev_idx (ev_var (i := 2) rfl (vis_of rfl) rfl rfl) (ev_call tk rfl (c__law_digit.ok (hr.mono (by decide))) (eva_cons (ev_var (i := 3) rfl (vis_of rfl) rfl rfl) (eva_cons (ev_blt rfl T.b_len (blt_boot .len) (blt_kind .len) (blt_ok rfl .len) (eva_cons (ev_var (i := 2) rfl (vis_of rfl) rfl rfl) eva_nil rfl) rfl (blt_name .len).1 (blt_name .len).2) eva_nil rfl) rfl) rfl rfl) rfl) rfl)
  (evs_cons (evs_expr (ev_app (ev_var (i := 4) rfl (vis_of rfl) rfl rfl) (ev_var (i := 6) rfl (vis_of rfl) rfl rfl) rfl rfl rfl) rfl)
  (evs_one (evs_set (i := 1) sN rfl (loc_of rfl) (.inl rfl) (ev_call tk rfl (c__law_bad.ok (hr.mono (by decide))) (eva_cons (ev_var (i := 1) rfl (vis_of rfl) rfl rfl) (eva_cons (ev_var (i := 6) rfl (vis_of rfl) rfl rfl) (eva_cons (ev_call tk rfl (c__law_digit.ok (hr.mono (by decide))) (eva_cons (ev_var (i := 3) rfl (vis_of rfl) rfl rfl) (eva_cons ev_int eva_nil rfl) rfl) rfl rfl) eva_nil rfl) rfl) rfl) rfl rfl) rfl))))
  evs_nil)) rfl)
  (evs_cons (evs_set (i := 7) sN rfl (loc_of rfl) (.inl rfl) ev_non rfl)
  (evs_cons (evs_tryAsXT (i := 8) rfl rfl sN rfl rfl rfl rfl T.h_NoProgram tkx (fun W pn xe tkx pw => have tk := takesN tkx; (evs_one (evs_expr (ev_callX tkx rfl (c_look_over.ok (hr.mono (by decide))) (eva_cons (ev_var (i := 1) rfl (vis_of rfl) rfl rfl) eva_nil rfl) rfl rfl) rfl))) (fun a_ oe_ d_ pn_ c_ D_ hc_ hz_ hf_ => (evs_one (evs_set (i := 7) sN rfl (loc_of rfl) (.inl rfl) (ev_tup (eva_cons (ev_xf (i := 8) (l := xf_role) hc_ hz_ hf_ rfl (vis_of rfl) rfl rfl T.xf_role) (eva_cons (ev_xf (i := 8) (l := xf_place) hc_ hz_ hf_ rfl (vis_of rfl) rfl rfl T.xf_place) eva_nil rfl) rfl)) rfl))))
  (evs_cons (evs_if (evt_cmp hu (ev_var (i := 4) rfl (vis_of rfl) rfl rfl) (ev_lst eva_nil) rfl)
  (evs_one (evs_ret (ev_cmp hu (ev_var (i := 7) rfl (vis_of rfl) rfl rfl) ev_non rfl)))
  evs_nil)
  (evs_one (evs_ret (ev_cmp hu (ev_var (i := 7) rfl (vis_of rfl) rfl rfl) (ev_blt rfl T.b_min (blt_boot .min) (blt_kind .min) (minN_ok rfl hu) (eva_cons (ev_var (i := 4) rfl (vis_of rfl) rfl rfl) eva_nil rfl) rfl (blt_name .min).1 (blt_name .min).2) rfl)))))))))))
end
theorem all_x {P : Program} {w : World} {K : PySem.W.Frag} {h : Heap} {mg : Str → Option Value} {fa : Addr} (X : K.In h) (G : h.Ns mainGlobals mg) (good : Good f_law) (hfa : mg "law" = some (.ref fa)) (c : He.SaysX fcs fns tbs [] (exB sms txs nks xcs kos kts oxs bss) w h K) :
    ∃ fd : FuncData, (∀ (s : Shared) (v : Value), BindsTo s fd ⟨[v], []⟩ [("_law_script", v)]) ∧ ∀ base : Heap, K.In base → base.Ns mainGlobals mg → FnOk P w K mg base (L2.CX P w) 9 fa fd ["_law_script"] (spLaw K) := by
  obtain ⟨fd1, FD1⟩ := c.t.d.def_ 0 (d := d__law_cell_at) rfl
  obtain ⟨fd2, FD2⟩ := c.t.d.def_ 1 (d := d__law_digit) rfl
  obtain ⟨fd3, FD3⟩ := c.t.d.def_ 2 (d := d__law_hands) rfl
  obtain ⟨fd4, FD4⟩ := c.t.d.def_ 3 (d := d__law_on_names) rfl
  obtain ⟨fd5, FD5⟩ := c.t.d.def_ 4 (d := d__law_number) rfl
  obtain ⟨fd6, FD6⟩ := c.t.d.def_ 5 (d := d__law_lines) rfl
  obtain ⟨fd7, FD7⟩ := c.t.d.def_ 6 (d := d__law_step) rfl
  obtain ⟨fd8, FD8⟩ := c.t.d.def_ 7 (d := d__law_program) rfl
  obtain ⟨fd9, FD9⟩ := c.t.d.def_ 8 (d := d__law_spots) rfl
  obtain ⟨fd10, FD10⟩ := c.t.d.def_ 9 (d := d__law_bad) rfl
  obtain ⟨fd11, FD11⟩ := c.t.d.def_ 10 (d := d_is_tuple_of) rfl
  obtain ⟨fd12, FD12⟩ := c.t.d.def_ 11 (d := d_is_whole) rfl
  obtain ⟨fd13, FD13⟩ := c.t.d.def_ 12 (d := d_is_from) rfl
  obtain ⟨fd14, FD14⟩ := c.t.d.def_ 13 (d := d_is_rising) rfl
  obtain ⟨fd15, FD15⟩ := c.t.d.def_ 14 (d := d_is_whole_program) rfl
  obtain ⟨fd16, FD16⟩ := c.t.d.def_ 15 (d := d_hands_of) rfl
  obtain ⟨fd17, FD17⟩ := c.t.d.def_ 16 (d := d_counts_of) rfl
  obtain ⟨fd18, FD18⟩ := c.t.d.def_ 17 (d := d_fits_line) rfl
  obtain ⟨fd19, FD19⟩ := c.t.d.def_ 18 (d := d_fits_lines) rfl
  obtain ⟨fd20, FD20⟩ := c.t.d.def_ 19 (d := d_fits) rfl
  obtain ⟨fd21, FD21⟩ := c.t.d.def_ 20 (d := d_sure) rfl
  obtain ⟨fd22, FD22⟩ := c.t.d.def_ 21 (d := d_Step___init__) rfl
  obtain ⟨fd23, FD23⟩ := c.t.d.def_ 22 (d := d_number_step) rfl
  obtain ⟨fd24, FD24⟩ := c.t.d.def_ 23 (d := d_name_step) rfl
  obtain ⟨fd25, FD25⟩ := c.t.d.def_ 24 (d := d_letter_step) rfl
  obtain ⟨fd26, FD26⟩ := c.t.d.def_ 25 (d := d_step_of) rfl
  obtain ⟨fd27, FD27⟩ := c.t.d.def_ 26 (d := d_look_over) rfl
  obtain ⟨fd28, FD28⟩ := c.t.d.def_ 27 (d := d_law) rfl
  obtain ⟨fdx0, FDx0⟩ := c.t.d.def_ 28 (d := d_NoProgram___init__) rfl
  have e := hfa.symm.trans (He.glo_ok X G (c.t.d.fact 0 (f := .glo "law") rfl))
  cases e
  have gC_Send_ := (He.glo_ok X G (c.t.d.fact 1 (f := .glo "Send") rfl))
  have gC_Take_ := (He.glo_ok X G (c.t.d.fact 2 (f := .glo "Take") rfl))
  have gC_Bell_ := (He.glo_ok X G (c.t.d.fact 3 (f := .glo "Bell") rfl))
  have gC_Put_ := (He.glo_ok X G (c.t.d.fact 4 (f := .glo "Put") rfl))
  have gC_Copy_ := (He.glo_ok X G (c.t.d.fact 5 (f := .glo "Copy") rfl))
  have gC_Raise_ := (He.glo_ok X G (c.t.d.fact 6 (f := .glo "Raise") rfl))
  have gC_Sum_ := (He.glo_ok X G (c.t.d.fact 7 (f := .glo "Sum") rfl))
  have gC_Choose_ := (He.glo_ok X G (c.t.d.fact 8 (f := .glo "Choose") rfl))
  have gC_Go_ := (He.glo_ok X G (c.t.d.fact 9 (f := .glo "Go") rfl))
  have gC_Less_ := (He.glo_ok X G (c.t.d.fact 10 (f := .glo "Less") rfl))
  have gC_Before_ := (He.glo_ok X G (c.t.d.fact 11 (f := .glo "Before") rfl))
  have gC_Me_ := (He.glo_ok X G (c.t.d.fact 12 (f := .glo "Me") rfl))
  have gC_Only_ := (He.glo_ok X G (c.t.d.fact 13 (f := .glo "Only") rfl))
  have gC_Pick_ := (He.glo_ok X G (c.t.d.fact 14 (f := .glo "Pick") rfl))
  have gC_Alike_ := (He.glo_ok X G (c.t.d.fact 15 (f := .glo "Alike") rfl))
  have gC_All_ := (He.glo_ok X G (c.t.d.fact 16 (f := .glo "All") rfl))
  have gC_Empty_ := (He.glo_ok X G (c.t.d.fact 17 (f := .glo "Empty") rfl))
  have gC_Join_ := (He.glo_ok X G (c.t.d.fact 18 (f := .glo "Join") rfl))
  have gC_Out_ := (He.glo_ok X G (c.t.d.fact 19 (f := .glo "Out") rfl))
  have gC_Many_ := (He.glo_ok X G (c.t.d.fact 20 (f := .glo "Many") rfl))
  have gC_LetterError_ := (He.glo_ok X G (c.t.d.fact 21 (f := .glo "LetterError") rfl))
  have gC_NoProgram_ := (He.glo_ok X G (c.t.d.fact 22 (f := .glo "NoProgram") rfl))
  have gC_NoStep_ := (He.glo_ok X G (c.t.d.fact 23 (f := .glo "NoStep") rfl))
  have cl_Send : Cls K (He.ga K "Send") := He.cls_ok (c.t.d.fact 24 (f := .cls "Send") rfl)
  have cl_Take : Cls K (He.ga K "Take") := He.cls_ok (c.t.d.fact 25 (f := .cls "Take") rfl)
  have cl_Bell : Cls K (He.ga K "Bell") := He.cls_ok (c.t.d.fact 26 (f := .cls "Bell") rfl)
  have cl_Put : Cls K (He.ga K "Put") := He.cls_ok (c.t.d.fact 27 (f := .cls "Put") rfl)
  have cl_Copy : Cls K (He.ga K "Copy") := He.cls_ok (c.t.d.fact 28 (f := .cls "Copy") rfl)
  have cl_Raise : Cls K (He.ga K "Raise") := He.cls_ok (c.t.d.fact 29 (f := .cls "Raise") rfl)
  have cl_Sum : Cls K (He.ga K "Sum") := He.cls_ok (c.t.d.fact 30 (f := .cls "Sum") rfl)
  have cl_Choose : Cls K (He.ga K "Choose") := He.cls_ok (c.t.d.fact 31 (f := .cls "Choose") rfl)
  have cl_Go : Cls K (He.ga K "Go") := He.cls_ok (c.t.d.fact 32 (f := .cls "Go") rfl)
  have cl_Less : Cls K (He.ga K "Less") := He.cls_ok (c.t.d.fact 33 (f := .cls "Less") rfl)
  have cl_Before : Cls K (He.ga K "Before") := He.cls_ok (c.t.d.fact 34 (f := .cls "Before") rfl)
  have cl_Me : Cls K (He.ga K "Me") := He.cls_ok (c.t.d.fact 35 (f := .cls "Me") rfl)
  have cl_Only : Cls K (He.ga K "Only") := He.cls_ok (c.t.d.fact 36 (f := .cls "Only") rfl)
  have cl_Pick : Cls K (He.ga K "Pick") := He.cls_ok (c.t.d.fact 37 (f := .cls "Pick") rfl)
  have cl_Alike : Cls K (He.ga K "Alike") := He.cls_ok (c.t.d.fact 38 (f := .cls "Alike") rfl)
  have cl_All : Cls K (He.ga K "All") := He.cls_ok (c.t.d.fact 39 (f := .cls "All") rfl)
  have cl_Empty : Cls K (He.ga K "Empty") := He.cls_ok (c.t.d.fact 40 (f := .cls "Empty") rfl)
  have cl_Join : Cls K (He.ga K "Join") := He.cls_ok (c.t.d.fact 41 (f := .cls "Join") rfl)
  have cl_Out : Cls K (He.ga K "Out") := He.cls_ok (c.t.d.fact 42 (f := .cls "Out") rfl)
  have cl_Many : Cls K (He.ga K "Many") := He.cls_ok (c.t.d.fact 43 (f := .cls "Many") rfl)
  obtain ⟨es_FORMS, nn_FORMS, kd_FORMS⟩ := c.t.tab 0 (t := (tbs[0])) rfl
  have gd_FORMS : CDic K w (He.ga K "FORMS") tb_FORMS := (cdic_tx (exB_tx c.more (q := ("FORMS", "put", ["box", "number"])) 19 rfl) (cdic_tx (exB_tx c.more (q := ("FORMS", "copy", ["box", "box"])) 18 rfl) (cdic_tx (exB_tx c.more (q := ("FORMS", "raise", ["box", "number"])) 17 rfl) (cdic_tx (exB_tx c.more (q := ("FORMS", "sum", ["box", "box"])) 16 rfl) (cdic_tx (exB_tx c.more (q := ("FORMS", "choose", ["box", "amount"])) 15 rfl) (cdic_tx (exB_tx c.more (q := ("FORMS", "less", ["box", "number", "place"])) 14 rfl) (cdic_tx (exB_tx c.more (q := ("FORMS", "before", ["box", "box", "place"])) 13 rfl) (cdic_tx (exB_tx c.more (q := ("FORMS", "go", ["place"])) 12 rfl) (cdic_tx (exB_tx c.more (q := ("FORMS", "me", ["box"])) 11 rfl) (cdic_tx (exB_tx c.more (q := ("FORMS", "only", ["box", "single"])) 10 rfl) (cdic_tx (exB_tx c.more (q := ("FORMS", "pick", ["box", "role"])) 9 rfl) (cdic_tx (exB_tx c.more (q := ("FORMS", "alike", ["box", "box", "place"])) 8 rfl) (cdic_tx (exB_tx c.more (q := ("FORMS", "all", ["set", "role"])) 7 rfl) (cdic_tx (exB_tx c.more (q := ("FORMS", "empty", ["set"])) 6 rfl) (cdic_tx (exB_tx c.more (q := ("FORMS", "join", ["set", "box"])) 5 rfl) (cdic_tx (exB_tx c.more (q := ("FORMS", "out", ["box", "set", "place"])) 4 rfl) (cdic_tx (exB_tx c.more (q := ("FORMS", "many", ["set", "crowd", "place"])) 3 rfl) (cdic_tx (exB_tx c.more (q := ("FORMS", "send", ["box", "kind", "box", "box"])) 2 rfl) (cdic_tx (exB_tx c.more (q := ("FORMS", "take", ["from", "lines"])) 1 rfl) (cdic_tx (exB_tx c.more (q := ("FORMS", "bell", [])) 0 rfl) (CDic.nil kd_FORMS)))))))))))))))))))))
  obtain ⟨tg_MOST_HANDS, gi_MOST_HANDS⟩ := He.int_ok X G (c.t.d.fact 59 (f := .int "MOST_HANDS" 6) rfl)
  obtain ⟨tg_MOST_LEFT, gi_MOST_LEFT⟩ := He.int_ok X G (c.t.d.fact 60 (f := .int "MOST_LEFT" 5) rfl)
  obtain ⟨tg_MOST_ROLES, gi_MOST_ROLES⟩ := He.int_ok X G (c.t.d.fact 61 (f := .int "MOST_ROLES" 6) rfl)
  obtain ⟨tg_MOST_ROOM, gi_MOST_ROOM⟩ := He.int_ok X G (c.t.d.fact 62 (f := .int "MOST_ROOM" 10) rfl)
  obtain ⟨tg_MOST_STEPS, gi_MOST_STEPS⟩ := He.int_ok X G (c.t.d.fact 63 (f := .int "MOST_STEPS" 60) rfl)
  obtain ⟨xa_NoStep, xb_NoStep, xc_NoStep, xd_NoStep⟩ := He.exc_ok (c.t.d.fact 64 (f := .exc "NoStep") rfl)
  have T : Txt K w mg := ⟨trivial, He.free_ok X G (c.t.d.fact 44 (f := .free "all") rfl), He.free_ok X G (c.t.d.fact 45 (f := .free "bool") rfl), He.free_ok X G (c.t.d.fact 46 (f := .free "enumerate") rfl), He.free_ok X G (c.t.d.fact 47 (f := .free "int") rfl), He.free_ok X G (c.t.d.fact 48 (f := .free "isinstance") rfl), He.free_ok X G (c.t.d.fact 49 (f := .free "len") rfl), He.free_ok X G (c.t.d.fact 50 (f := .free "list") rfl), He.free_ok X G (c.t.d.fact 51 (f := .free "min") rfl), He.free_ok X G (c.t.d.fact 52 (f := .free "range") rfl), He.free_ok X G (c.t.d.fact 53 (f := .free "set") rfl), He.free_ok X G (c.t.d.fact 54 (f := .free "sorted") rfl), He.free_ok X G (c.t.d.fact 55 (f := .free "str") rfl), He.free_ok X G (c.t.d.fact 56 (f := .free "tuple") rfl), He.free_ok X G (c.t.d.fact 57 (f := .free "zip") rfl), ⟨_, (He.glo_ok X G (c.t.d.fact 58 (f := .glo "FORMS") rfl)), gd_FORMS⟩, CnT.int gi_MOST_HANDS, CnT.int gi_MOST_LEFT, CnT.int gi_MOST_ROLES, CnT.int gi_MOST_ROOM, CnT.int gi_MOST_STEPS, ⟨_, gC_NoStep_, xa_NoStep, xb_NoStep, xc_NoStep, xd_NoStep⟩, ⟨_, gC_NoProgram_, (ExmT.cons gC_NoProgram_ (He.exm_ok (c.t.d.fact 66 (f := .exm "NoProgram" "NoProgram" true) rfl)) (ExmT.cons gC_NoStep_ (He.exm_ok (c.t.d.fact 65 (f := .exm "NoStep" "NoProgram" false) rfl)) ExmT.nil))⟩, ⟨_, gC_NoStep_, (ExmT.cons gC_NoProgram_ (He.exm_ok (c.t.d.fact 68 (f := .exm "NoProgram" "NoStep" false) rfl)) (ExmT.cons gC_NoStep_ (He.exm_ok (c.t.d.fact 67 (f := .exm "NoStep" "NoStep" true) rfl)) ExmT.nil))⟩, ⟨(xfT_cons gC_NoProgram_ (xcB_ok (exB_xc c.more (q := "NoProgram") 0 rfl)) (He.noat_ok (c.t.d.fact 69 (f := .noat "NoProgram" "place") rfl)) (fun _ _ h => nomatch h))⟩, ⟨(xfT_cons gC_NoProgram_ (xcB_ok (exB_xc c.more (q := "NoProgram") 0 rfl)) (He.noat_ok (c.t.d.fact 70 (f := .noat "NoProgram" "role") rfl)) (fun _ _ h => nomatch h))⟩, (FAll.cons gC_Send_ cl_Send (He.noat_ok (c.t.d.fact 90 (f := .noat "Send" "form") rfl)) (FAll.cons gC_Take_ cl_Take (He.noat_ok (c.t.d.fact 89 (f := .noat "Take" "form") rfl)) (FAll.cons gC_Bell_ cl_Bell (He.noat_ok (c.t.d.fact 88 (f := .noat "Bell" "form") rfl)) (FAll.cons gC_Put_ cl_Put (He.noat_ok (c.t.d.fact 87 (f := .noat "Put" "form") rfl)) (FAll.cons gC_Copy_ cl_Copy (He.noat_ok (c.t.d.fact 86 (f := .noat "Copy" "form") rfl)) (FAll.cons gC_Raise_ cl_Raise (He.noat_ok (c.t.d.fact 85 (f := .noat "Raise" "form") rfl)) (FAll.cons gC_Sum_ cl_Sum (He.noat_ok (c.t.d.fact 84 (f := .noat "Sum" "form") rfl)) (FAll.cons gC_Choose_ cl_Choose (He.noat_ok (c.t.d.fact 83 (f := .noat "Choose" "form") rfl)) (FAll.cons gC_Go_ cl_Go (He.noat_ok (c.t.d.fact 82 (f := .noat "Go" "form") rfl)) (FAll.cons gC_Less_ cl_Less (He.noat_ok (c.t.d.fact 81 (f := .noat "Less" "form") rfl)) (FAll.cons gC_Before_ cl_Before (He.noat_ok (c.t.d.fact 80 (f := .noat "Before" "form") rfl)) (FAll.cons gC_Me_ cl_Me (He.noat_ok (c.t.d.fact 79 (f := .noat "Me" "form") rfl)) (FAll.cons gC_Only_ cl_Only (He.noat_ok (c.t.d.fact 78 (f := .noat "Only" "form") rfl)) (FAll.cons gC_Pick_ cl_Pick (He.noat_ok (c.t.d.fact 77 (f := .noat "Pick" "form") rfl)) (FAll.cons gC_Alike_ cl_Alike (He.noat_ok (c.t.d.fact 76 (f := .noat "Alike" "form") rfl)) (FAll.cons gC_All_ cl_All (He.noat_ok (c.t.d.fact 75 (f := .noat "All" "form") rfl)) (FAll.cons gC_Empty_ cl_Empty (He.noat_ok (c.t.d.fact 74 (f := .noat "Empty" "form") rfl)) (FAll.cons gC_Join_ cl_Join (He.noat_ok (c.t.d.fact 73 (f := .noat "Join" "form") rfl)) (FAll.cons gC_Out_ cl_Out (He.noat_ok (c.t.d.fact 72 (f := .noat "Out" "form") rfl)) (FAll.cons gC_Many_ cl_Many (He.noat_ok (c.t.d.fact 71 (f := .noat "Many" "form") rfl)) FAll.nil))))))))))))))))))))⟩
  have F1 : Fun K "_law_cell_at" "_law_cell_at" st__law_cell_at (He.fAd K d__law_cell_at.at_) fd1 := fun_of FD1
  have b1 := F1.binds (ps := ["_law_script", "_law_k"]) fun _ _ _ _ _ _ us hl => match us, hl with | [_, _], _ => rfl
  have F2 : Fun K "_law_digit" "_law_digit" st__law_digit (He.fAd K d__law_digit.at_) fd2 := fun_of FD2
  have b2 := F2.binds (ps := ["_law_state", "_law_base"]) fun _ _ _ _ _ _ us hl => match us, hl with | [_, _], _ => rfl
  have F3 : Fun K "_law_hands" "_law_hands" st__law_hands (He.fAd K d__law_hands.at_) fd3 := fun_of FD3
  have b3 := F3.binds (ps := ["_law_state", "_law_amount"]) fun _ _ _ _ _ _ us hl => match us, hl with | [_, _], _ => rfl
  have F4 : Fun K "_law_on_names" "_law_on_names" st__law_on_names (He.fAd K d__law_on_names.at_) fd4 := fun_of FD4
  have b4 := F4.binds (ps := ["_law_state", "_law_word", "_law_length", "_law_counts"]) fun _ _ _ _ _ _ us hl => match us, hl with | [_, _, _, _], _ => rfl
  have F5 : Fun K "_law_number" "_law_number" st__law_number (He.fAd K d__law_number.at_) fd5 := fun_of FD5
  have b5 := F5.binds (ps := ["_law_state"]) fun _ _ _ _ _ _ us hl => match us, hl with | [_], _ => rfl
  have F6 : Fun K "_law_lines" "_law_lines" st__law_lines (He.fAd K d__law_lines.at_) fd6 := fun_of FD6
  have b6 := F6.binds (ps := ["_law_state", "_law_length"]) fun _ _ _ _ _ _ us hl => match us, hl with | [_, _], _ => rfl
  have F7 : Fun K "_law_step" "_law_step" st__law_step (He.fAd K d__law_step.at_) fd7 := fun_of FD7
  have b7 := F7.binds (ps := ["_law_state", "_law_length", "_law_counts"]) fun _ _ _ _ _ _ us hl => match us, hl with | [_, _, _], _ => rfl
  have F8 : Fun K "_law_program" "_law_program" st__law_program (He.fAd K d__law_program.at_) fd8 := fun_of FD8
  have b8 := F8.binds (ps := ["_law_script"]) fun _ _ _ _ _ _ us hl => match us, hl with | [_], _ => rfl
  have F9 : Fun K "_law_spots" "_law_spots" st__law_spots (He.fAd K d__law_spots.at_) fd9 := fun_of FD9
  have b9 := F9.binds (ps := ["_law_program_here"]) fun _ _ _ _ _ _ us hl => match us, hl with | [_], _ => rfl
  have F10 : Fun K "_law_bad" "_law_bad" st__law_bad (He.fAd K d__law_bad.at_) fd10 := fun_of FD10
  have b10 := F10.binds (ps := ["_law_program_here", "_law_spot", "_law_cell"]) fun _ _ _ _ _ _ us hl => match us, hl with | [_, _, _], _ => rfl
  have F11 : Fun K "is_tuple_of" "is_tuple_of" st_is_tuple_of (He.fAd K d_is_tuple_of.at_) fd11 := fun_of FD11
  have b11 := F11.binds (ps := ["thing", "low", "high"]) fun _ _ _ _ _ _ us hl => match us, hl with | [_, _, _], _ => rfl
  have F12 : Fun K "is_whole" "is_whole" st_is_whole (He.fAd K d_is_whole.at_) fd12 := fun_of FD12
  have b12 := F12.binds (ps := ["thing"]) fun _ _ _ _ _ _ us hl => match us, hl with | [_], _ => rfl
  have F13 : Fun K "is_from" "is_from" st_is_from (He.fAd K d_is_from.at_) fd13 := fun_of FD13
  have b13 := F13.binds (ps := ["thing", "low", "high"]) fun _ _ _ _ _ _ us hl => match us, hl with | [_, _, _], _ => rfl
  have F14 : Fun K "is_rising" "is_rising" st_is_rising (He.fAd K d_is_rising.at_) fd14 := fun_of FD14
  have b14 := F14.binds (ps := ["hands"]) fun _ _ _ _ _ _ us hl => match us, hl with | [_], _ => rfl
  have F15 : Fun K "is_whole_program" "is_whole_program" st_is_whole_program (He.fAd K d_is_whole_program.at_) fd15 := fun_of FD15
  have b15 := F15.binds (ps := ["program"]) fun _ _ _ _ _ _ us hl => match us, hl with | [_], _ => rfl
  have F16 : Fun K "hands_of" "hands_of" st_hands_of (He.fAd K d_hands_of.at_) fd16 := fun_of FD16
  have b16 := F16.binds (ps := ["program", "role"]) fun _ _ _ _ _ _ us hl => match us, hl with | [_, _], _ => rfl
  have F17 : Fun K "counts_of" "counts_of" st_counts_of (He.fAd K d_counts_of.at_) fd17 := fun_of FD17
  have b17 := F17.binds (ps := ["program"]) fun _ _ _ _ _ _ us hl => match us, hl with | [_], _ => rfl
  have F18 : Fun K "fits_line" "fits_line" st_fits_line (He.fAd K d_fits_line.at_) fd18 := fun_of FD18
  have b18 := F18.binds (ps := ["line", "length"]) fun _ _ _ _ _ _ us hl => match us, hl with | [_, _], _ => rfl
  have F19 : Fun K "fits_lines" "fits_lines" st_fits_lines (He.fAd K d_fits_lines.at_) fd19 := fun_of FD19
  have b19 := F19.binds (ps := ["lines", "length"]) fun _ _ _ _ _ _ us hl => match us, hl with | [_, _], _ => rfl
  have F20 : Fun K "fits" "fits" st_fits (He.fAd K d_fits.at_) fd20 := fun_of FD20
  have b20 := F20.binds (ps := ["sort", "thing", "length", "counts"]) fun _ _ _ _ _ _ us hl => match us, hl with | [_, _, _, _], _ => rfl
  have F21 : Fun K "sure" "sure" st_sure (He.fAd K d_sure.at_) fd21 := fun_of FD21
  have b21 := F21.binds (ps := ["told", "length", "counts"]) fun _ _ _ _ _ _ us hl => match us, hl with | [_, _, _], _ => rfl
  have F22 : Fun K "__init__" "Step.__init__" st_Step___init__ (He.fAd K d_Step___init__.at_) fd22 := fun_of FD22
  have b22 := F22.binds (ps := ["self", "form"]) fun _ _ _ _ _ _ us hl => match us, hl with | [_, _], _ => rfl
  have F23 : Fun K "number_step" "number_step" st_number_step (He.fAd K d_number_step.at_) fd23 := fun_of FD23
  have b23 := F23.binds (ps := ["told"]) fun _ _ _ _ _ _ us hl => match us, hl with | [_], _ => rfl
  have F24 : Fun K "name_step" "name_step" st_name_step (He.fAd K d_name_step.at_) fd24 := fun_of FD24
  have b24 := F24.binds (ps := ["told"]) fun _ _ _ _ _ _ us hl => match us, hl with | [_], _ => rfl
  have F25 : Fun K "letter_step" "letter_step" st_letter_step (He.fAd K d_letter_step.at_) fd25 := fun_of FD25
  have b25 := F25.binds (ps := ["told"]) fun _ _ _ _ _ _ us hl => match us, hl with | [_], _ => rfl
  have F26 : Fun K "step_of" "step_of" st_step_of (He.fAd K d_step_of.at_) fd26 := fun_of FD26
  have b26 := F26.binds (ps := ["told", "length", "counts"]) fun _ _ _ _ _ _ us hl => match us, hl with | [_, _, _], _ => rfl
  have F27 : Fun K "look_over" "look_over" st_look_over (He.fAd K d_look_over.at_) fd27 := fun_of FD27
  have b27 := F27.binds (ps := ["program"]) fun _ _ _ _ _ _ us hl => match us, hl with | [_], _ => rfl
  have F28 : Fun K "law" "law" st_law (He.fAd K d_law.at_) fd28 := fun_of FD28
  have b28 := FunD.bindsA (ps := ["_law_script"]) FD28 fun _ _ _ _ _ _ us hl => match us, hl with | [_], _ => rfl
  refine ⟨fd28, fun s v => b28 s [v] rfl, fun base _ _ => ?_⟩
  have Fx0 : Fun K "__init__" "NoProgram.__init__" st_NoProgram___init__ (He.fAd K d_NoProgram___init__.at_) fdx0 := fun_of FDx0
  have bx0 := Fx0.binds (ps := ["self", "role", "place"]) fun _ _ _ _ _ _ us hl => match us, hl with | [_, _, _], _ => rfl
  have xh_NoProgram : XH2 P w K mg base "NoProgram" "role" "place" := xh2_mk gC_NoProgram_ (exB_ox c.more (q := "NoProgram") 0 rfl) rfl (c.t.d.fact 70 (f := .noat "NoProgram" "role") rfl) (c.t.d.fact 69 (f := .noat "NoProgram" "place") rfl) bx0 (init2_okH Fx0 s_NoProgram___init__ (bsB_ok (exB_bs c.more (q := "LetterError") 0 rfl) gC_LetterError_) rfl rfl (fun _ _ _ _ _ _ _ => rfl) rfl rfl rfl rfl ⟨rfl, rfl⟩ ⟨rfl, rfl⟩ ⟨rfl, rfl⟩)
  have xi_NoProgram : XI2 P w K mg base "NoProgram" "role" "place" := xi2_mk gC_NoProgram_ (exB_ox c.more (q := "NoProgram") 0 rfl) rfl (c.t.d.fact 70 (f := .noat "NoProgram" "role") rfl) (c.t.d.fact 69 (f := .noat "NoProgram" "place") rfl) bx0 (init2_ok Fx0 s_NoProgram___init__ (bsB_ok (exB_bs c.more (q := "LetterError") 0 rfl) gC_LetterError_) rfl rfl (fun _ _ _ _ _ _ => rfl) rfl rfl rfl rfl ⟨rfl, rfl⟩ ⟨rfl, rfl⟩ ⟨rfl, rfl⟩)
  have g1 : Cal P w K mg base "_law_cell_at" 2 f__law_cell_at 1 := ⟨⟨(He.fAd K d__law_cell_at.at_), _, _, (He.glo_ok X G (c.t.d.fact 91 (f := .glo "_law_cell_at") rfl)), F1.kp, b1, ok__law_cell_at F1 T ⟩⟩
  have g2 : Cal P w K mg base "_law_digit" 2 f__law_digit 1 := ⟨⟨(He.fAd K d__law_digit.at_), _, _, (He.glo_ok X G (c.t.d.fact 92 (f := .glo "_law_digit") rfl)), F2.kp, b2, ok__law_digit F2 T ⟩⟩
  have g3 : Cal P w K mg base "_law_hands" 2 f__law_hands 2 := ⟨⟨(He.fAd K d__law_hands.at_), _, _, (He.glo_ok X G (c.t.d.fact 93 (f := .glo "_law_hands") rfl)), F3.kp, b3, ok__law_hands F3 T g2⟩⟩
  have g4 : Cal P w K mg base "_law_on_names" 4 f__law_on_names 2 := ⟨⟨(He.fAd K d__law_on_names.at_), _, _, (He.glo_ok X G (c.t.d.fact 94 (f := .glo "_law_on_names") rfl)), F4.kp, b4, ok__law_on_names F4 T g2⟩⟩
  have g5 : Cal P w K mg base "_law_number" 1 f__law_number 2 := ⟨⟨(He.fAd K d__law_number.at_), _, _, (He.glo_ok X G (c.t.d.fact 95 (f := .glo "_law_number") rfl)), F5.kp, b5, ok__law_number F5 T g2⟩⟩
  have g6 : Cal P w K mg base "_law_lines" 2 f__law_lines 2 := ⟨⟨(He.fAd K d__law_lines.at_), _, _, (He.glo_ok X G (c.t.d.fact 96 (f := .glo "_law_lines") rfl)), F6.kp, b6, ok__law_lines F6 T g2⟩⟩
  have g7 : Cal P w K mg base "_law_step" 3 f__law_step 3 := ⟨⟨(He.fAd K d__law_step.at_), _, _, (He.glo_ok X G (c.t.d.fact 97 (f := .glo "_law_step") rfl)), F7.kp, b7, ok__law_step F7 T g2 g4 g5 g6⟩⟩
  have g8 : Cal P w K mg base "_law_program" 1 f__law_program 4 := ⟨⟨(He.fAd K d__law_program.at_), _, _, (He.glo_ok X G (c.t.d.fact 98 (f := .glo "_law_program") rfl)), F8.kp, b8, ok__law_program F8 T g1 g2 g3 g7⟩⟩
  have g9 : Cal P w K mg base "_law_spots" 1 f__law_spots 1 := ⟨⟨(He.fAd K d__law_spots.at_), _, _, (He.glo_ok X G (c.t.d.fact 99 (f := .glo "_law_spots") rfl)), F9.kp, b9, ok__law_spots F9 T ⟩⟩
  have g10 : Cal P w K mg base "_law_bad" 3 f__law_bad 1 := ⟨⟨(He.fAd K d__law_bad.at_), _, _, (He.glo_ok X G (c.t.d.fact 100 (f := .glo "_law_bad") rfl)), F10.kp, b10, ok__law_bad F10 T ⟩⟩
  have g11 : Cal P w K mg base "is_tuple_of" 3 f_is_tuple_of 1 := ⟨⟨(He.fAd K d_is_tuple_of.at_), _, _, (He.glo_ok X G (c.t.d.fact 101 (f := .glo "is_tuple_of") rfl)), F11.kp, b11, ok_is_tuple_of F11 T ⟩⟩
  have g12 : Cal P w K mg base "is_whole" 1 f_is_whole 1 := ⟨⟨(He.fAd K d_is_whole.at_), _, _, (He.glo_ok X G (c.t.d.fact 102 (f := .glo "is_whole") rfl)), F12.kp, b12, ok_is_whole F12 T ⟩⟩
  have g13 : Cal P w K mg base "is_from" 3 f_is_from 2 := ⟨⟨(He.fAd K d_is_from.at_), _, _, (He.glo_ok X G (c.t.d.fact 103 (f := .glo "is_from") rfl)), F13.kp, b13, ok_is_from F13 T g12⟩⟩
  have g14 : Cal P w K mg base "is_rising" 1 f_is_rising 1 := ⟨⟨(He.fAd K d_is_rising.at_), _, _, (He.glo_ok X G (c.t.d.fact 104 (f := .glo "is_rising") rfl)), F14.kp, b14, ok_is_rising F14 T ⟩⟩
  have g15 : Cal P w K mg base "is_whole_program" 1 f_is_whole_program 3 := ⟨⟨(He.fAd K d_is_whole_program.at_), _, _, (He.glo_ok X G (c.t.d.fact 105 (f := .glo "is_whole_program") rfl)), F15.kp, b15, ok_is_whole_program F15 T g11 g13 g14⟩⟩
  have g16 : Cal P w K mg base "hands_of" 2 f_hands_of 1 := ⟨⟨(He.fAd K d_hands_of.at_), _, _, (He.glo_ok X G (c.t.d.fact 106 (f := .glo "hands_of") rfl)), F16.kp, b16, ok_hands_of F16 T ⟩⟩
  have g17 : Cal P w K mg base "counts_of" 1 f_counts_of 2 := ⟨⟨(He.fAd K d_counts_of.at_), _, _, (He.glo_ok X G (c.t.d.fact 107 (f := .glo "counts_of") rfl)), F17.kp, b17, ok_counts_of F17 T g16⟩⟩
  have g18 : Cal P w K mg base "fits_line" 2 f_fits_line 3 := ⟨⟨(He.fAd K d_fits_line.at_), _, _, (He.glo_ok X G (c.t.d.fact 108 (f := .glo "fits_line") rfl)), F18.kp, b18, ok_fits_line F18 T g13⟩⟩
  have g19 : Cal P w K mg base "fits_lines" 2 f_fits_lines 4 := ⟨⟨(He.fAd K d_fits_lines.at_), _, _, (He.glo_ok X G (c.t.d.fact 109 (f := .glo "fits_lines") rfl)), F19.kp, b19, ok_fits_lines F19 T g18⟩⟩
  have g20 : Cal P w K mg base "fits" 4 f_fits 5 := ⟨⟨(He.fAd K d_fits.at_), _, _, (He.glo_ok X G (c.t.d.fact 110 (f := .glo "fits") rfl)), F20.kp, b20, ok_fits F20 T g12 g19 g13⟩⟩
  have g21 : Cal P w K mg base "sure" 3 f_sure 6 := ⟨⟨(He.fAd K d_sure.at_), _, _, (He.glo_ok X G (c.t.d.fact 111 (f := .glo "sure") rfl)), F21.kp, b21, ok_sure F21 T g20⟩⟩
  have G22 := ok_Step___init__ (P := P) (base := base) F22 T 
  have kk_Put : MkC P w K mg base "Put" 2 f_Step___init__ 1 := ⟨⟨_, (He.fAd K d_Step___init__.at_), _, _, gC_Put_, mkr_at (c.t.d.fact 112 (f := .mkr "Put") rfl) (exB_sm c.more (q := ("Put", "Step", "__init__")) 0 rfl), b22, G22⟩⟩
  have kk_Copy : MkC P w K mg base "Copy" 2 f_Step___init__ 1 := ⟨⟨_, (He.fAd K d_Step___init__.at_), _, _, gC_Copy_, mkr_at (c.t.d.fact 113 (f := .mkr "Copy") rfl) (exB_sm c.more (q := ("Copy", "Step", "__init__")) 1 rfl), b22, G22⟩⟩
  have kk_Raise : MkC P w K mg base "Raise" 2 f_Step___init__ 1 := ⟨⟨_, (He.fAd K d_Step___init__.at_), _, _, gC_Raise_, mkr_at (c.t.d.fact 114 (f := .mkr "Raise") rfl) (exB_sm c.more (q := ("Raise", "Step", "__init__")) 2 rfl), b22, G22⟩⟩
  have kk_Sum : MkC P w K mg base "Sum" 2 f_Step___init__ 1 := ⟨⟨_, (He.fAd K d_Step___init__.at_), _, _, gC_Sum_, mkr_at (c.t.d.fact 115 (f := .mkr "Sum") rfl) (exB_sm c.more (q := ("Sum", "Step", "__init__")) 3 rfl), b22, G22⟩⟩
  have kk_Choose : MkC P w K mg base "Choose" 2 f_Step___init__ 1 := ⟨⟨_, (He.fAd K d_Step___init__.at_), _, _, gC_Choose_, mkr_at (c.t.d.fact 116 (f := .mkr "Choose") rfl) (exB_sm c.more (q := ("Choose", "Step", "__init__")) 4 rfl), b22, G22⟩⟩
  have kk_Less : MkC P w K mg base "Less" 2 f_Step___init__ 1 := ⟨⟨_, (He.fAd K d_Step___init__.at_), _, _, gC_Less_, mkr_at (c.t.d.fact 117 (f := .mkr "Less") rfl) (exB_sm c.more (q := ("Less", "Step", "__init__")) 5 rfl), b22, G22⟩⟩
  have kk_Before : MkC P w K mg base "Before" 2 f_Step___init__ 1 := ⟨⟨_, (He.fAd K d_Step___init__.at_), _, _, gC_Before_, mkr_at (c.t.d.fact 118 (f := .mkr "Before") rfl) (exB_sm c.more (q := ("Before", "Step", "__init__")) 6 rfl), b22, G22⟩⟩
  have kk_Go : MkC P w K mg base "Go" 2 f_Step___init__ 1 := ⟨⟨_, (He.fAd K d_Step___init__.at_), _, _, gC_Go_, mkr_at (c.t.d.fact 119 (f := .mkr "Go") rfl) (exB_sm c.more (q := ("Go", "Step", "__init__")) 7 rfl), b22, G22⟩⟩
  have g23 : Cal P w K mg base "number_step" 1 f_number_step 3 := ⟨⟨(He.fAd K d_number_step.at_), _, _, (He.glo_ok X G (c.t.d.fact 120 (f := .glo "number_step") rfl)), F23.kp, b23, ok_number_step F23 T kk_Put kk_Copy kk_Raise kk_Sum kk_Choose kk_Less kk_Before kk_Go⟩⟩
  have kk_Me : MkC P w K mg base "Me" 2 f_Step___init__ 1 := ⟨⟨_, (He.fAd K d_Step___init__.at_), _, _, gC_Me_, mkr_at (c.t.d.fact 121 (f := .mkr "Me") rfl) (exB_sm c.more (q := ("Me", "Step", "__init__")) 8 rfl), b22, G22⟩⟩
  have kk_Only : MkC P w K mg base "Only" 2 f_Step___init__ 1 := ⟨⟨_, (He.fAd K d_Step___init__.at_), _, _, gC_Only_, mkr_at (c.t.d.fact 122 (f := .mkr "Only") rfl) (exB_sm c.more (q := ("Only", "Step", "__init__")) 9 rfl), b22, G22⟩⟩
  have kk_Pick : MkC P w K mg base "Pick" 2 f_Step___init__ 1 := ⟨⟨_, (He.fAd K d_Step___init__.at_), _, _, gC_Pick_, mkr_at (c.t.d.fact 123 (f := .mkr "Pick") rfl) (exB_sm c.more (q := ("Pick", "Step", "__init__")) 10 rfl), b22, G22⟩⟩
  have kk_Alike : MkC P w K mg base "Alike" 2 f_Step___init__ 1 := ⟨⟨_, (He.fAd K d_Step___init__.at_), _, _, gC_Alike_, mkr_at (c.t.d.fact 124 (f := .mkr "Alike") rfl) (exB_sm c.more (q := ("Alike", "Step", "__init__")) 11 rfl), b22, G22⟩⟩
  have kk_All : MkC P w K mg base "All" 2 f_Step___init__ 1 := ⟨⟨_, (He.fAd K d_Step___init__.at_), _, _, gC_All_, mkr_at (c.t.d.fact 125 (f := .mkr "All") rfl) (exB_sm c.more (q := ("All", "Step", "__init__")) 12 rfl), b22, G22⟩⟩
  have kk_Empty : MkC P w K mg base "Empty" 2 f_Step___init__ 1 := ⟨⟨_, (He.fAd K d_Step___init__.at_), _, _, gC_Empty_, mkr_at (c.t.d.fact 126 (f := .mkr "Empty") rfl) (exB_sm c.more (q := ("Empty", "Step", "__init__")) 13 rfl), b22, G22⟩⟩
  have kk_Join : MkC P w K mg base "Join" 2 f_Step___init__ 1 := ⟨⟨_, (He.fAd K d_Step___init__.at_), _, _, gC_Join_, mkr_at (c.t.d.fact 127 (f := .mkr "Join") rfl) (exB_sm c.more (q := ("Join", "Step", "__init__")) 14 rfl), b22, G22⟩⟩
  have kk_Out : MkC P w K mg base "Out" 2 f_Step___init__ 1 := ⟨⟨_, (He.fAd K d_Step___init__.at_), _, _, gC_Out_, mkr_at (c.t.d.fact 128 (f := .mkr "Out") rfl) (exB_sm c.more (q := ("Out", "Step", "__init__")) 15 rfl), b22, G22⟩⟩
  have kk_Many : MkC P w K mg base "Many" 2 f_Step___init__ 1 := ⟨⟨_, (He.fAd K d_Step___init__.at_), _, _, gC_Many_, mkr_at (c.t.d.fact 129 (f := .mkr "Many") rfl) (exB_sm c.more (q := ("Many", "Step", "__init__")) 16 rfl), b22, G22⟩⟩
  have g24 : Cal P w K mg base "name_step" 1 f_name_step 3 := ⟨⟨(He.fAd K d_name_step.at_), _, _, (He.glo_ok X G (c.t.d.fact 130 (f := .glo "name_step") rfl)), F24.kp, b24, ok_name_step F24 T kk_Me kk_Only kk_Pick kk_Alike kk_All kk_Empty kk_Join kk_Out kk_Many⟩⟩
  have kk_Send : MkC P w K mg base "Send" 2 f_Step___init__ 1 := ⟨⟨_, (He.fAd K d_Step___init__.at_), _, _, gC_Send_, mkr_at (c.t.d.fact 131 (f := .mkr "Send") rfl) (exB_sm c.more (q := ("Send", "Step", "__init__")) 17 rfl), b22, G22⟩⟩
  have kk_Take : MkC P w K mg base "Take" 2 f_Step___init__ 1 := ⟨⟨_, (He.fAd K d_Step___init__.at_), _, _, gC_Take_, mkr_at (c.t.d.fact 132 (f := .mkr "Take") rfl) (exB_sm c.more (q := ("Take", "Step", "__init__")) 18 rfl), b22, G22⟩⟩
  have kk_Bell : MkC P w K mg base "Bell" 2 f_Step___init__ 1 := ⟨⟨_, (He.fAd K d_Step___init__.at_), _, _, gC_Bell_, mkr_at (c.t.d.fact 133 (f := .mkr "Bell") rfl) (exB_sm c.more (q := ("Bell", "Step", "__init__")) 19 rfl), b22, G22⟩⟩
  have g25 : Cal P w K mg base "letter_step" 1 f_letter_step 3 := ⟨⟨(He.fAd K d_letter_step.at_), _, _, (He.glo_ok X G (c.t.d.fact 134 (f := .glo "letter_step") rfl)), F25.kp, b25, ok_letter_step F25 T kk_Send kk_Take kk_Bell⟩⟩
  have g26 : Cal P w K mg base "step_of" 3 f_step_of 7 := ⟨⟨(He.fAd K d_step_of.at_), _, _, (He.glo_ok X G (c.t.d.fact 135 (f := .glo "step_of") rfl)), F26.kp, b26, ok_step_of F26 T g21 g23 g24 g25⟩⟩
  have g27 : CalX P w K mg base "look_over" 1 f_look_over 8 := ⟨⟨(He.fAd K d_look_over.at_), _, _, (He.glo_ok X G (c.t.d.fact 136 (f := .glo "look_over") rfl)), F27.kp, b27, ok_look_over F27 T g15 g17 g26 xh_NoProgram xi_NoProgram⟩⟩
  exact law_ok good (ok_law F28 T g8 g9 g1 g2 g10 g27)
end Ev.K17
open PySem PySem.W PySem.Calls PyProof.Rows in
set_option maxRecDepth 100000 in
set_option maxHeartbeats 0 in
theorem PySem.Challenge.cw_letterall_k17_the_first_bad_step_holds : PySem.Challenge.rw_letterall_k17_the_first_bad_step.Holds := by
  w_on; o_law
  refine HandSHeadRun.head_any (r := OpenLaw.row PySem.Challenge.rw_letterall_k17_the_first_bad_step) (q := view (OpenLaw.row PySem.Challenge.rw_letterall_k17_the_first_bad_step).prog [69]) (H := Ev.K17.hk) (ob := Ev.K17.ob) (M := 12000) (loose := Ev.K17.loose) (d := HandSHeadRun.topDef (OpenLaw.row PySem.Challenge.rw_letterall_k17_the_first_bad_step).prog 69) (kwd := []) Ev.K17.ob_eq
    (by kernel_rfl) (fun s => by kernel_rfl) Ev.K17.run (by kernel_rfl) (by kernel_rfl) (by kernel_rfl) (by rfl) (by first | assumption | decide +kernel) (by decide +kernel) ⟨rfl, rfl, rfl, rfl, rfl, by decide +kernel⟩ ?hw ?hc
  case hw => w_witness2
  case hc =>
    refine Ev.walk_xX (l := PySem.Challenge.rw_letterall_k17_the_first_bad_step) (k := 9) (x := "_law_script") rfl (by kernel_rfl) ⟨rfl, by decide, by decide⟩ ?F
    intro w mg fa h Y G hmg0
    obtain ⟨K, KX, c⟩ := Y
    have hmg : mg ("law" : PySem.Str) = some (.ref fa) := by
      have e : (HandSHeadRun.topDef (OpenLaw.row PySem.Challenge.rw_letterall_k17_the_first_bad_step).prog 69).name = ("law" : PySem.Str) := by kernel_rfl
      rw [← e]
      exact hmg0
    obtain ⟨fd, hb, hF⟩ := Ev.K17.all_x (P := (PySem.Challenge.rw_letterall_k17_the_first_bad_step).prog) (w := w) KX G Ev.K17.good hmg c
    exact ⟨K, fd, KX, hb, hF⟩
#print axioms PySem.Challenge.cw_letterall_k17_the_first_bad_step_holds
