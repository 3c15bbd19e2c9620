import PyProof.Rows.All
import Wide.All
import OpenK.AllK
import Wide.FinOn
import HandS.Conv
import HandS.Deep
import HandS.DeepEq
import HandS.Defaults
import HandS.DictTup
import HandS.EndBits
import HandS.Exc
import HandS.ExcCtx
import HandS.ExcField
import HandS.ExcInit
import HandS.ExcInitHot
import HandS.ExcIs
import HandS.Flow
import HandS.ForExc
import HandS.ForMost
import HandS.Head0
import HandS.Head1
import HandS.Head2
import HandS.HeadEnd
import HandS.HeadHook1
import HandS.HeadHook2
import HandS.HeadHook3
import HandS.HeadHook4
import HandS.Hot
import HandS.HotCalls
import HandS.IsInst
import HandS.Nested
import HandS.NestedK
import HandS.Rev
import HandS.SetFor
import HandS.SortInts
import HandS.Strs
import HandS.Style
import HandS.SuiteRaise
import HandS.TryOnly
import HandS.TupAny
import HandS.TupLe
import HandS.TupMul
import HandS.Wide
import HandS.WideBits
import HandS.Words
import HandS.Zip
import KE.BitLaws
import KE.DataMinMax
import KE.DatumOrd
import KE.GoesEnum
import KE.KDictItemsList
import KE.KDictZip
import KE.KExcIs
import KE.KIndexOf
import KE.KRevSl
import KE.KSortTup
import KE.KTurns
import PyProof.DictUpdate
import PyProof.ExcBaseAll.ValueError
import PyProof.ReprRoads
import PyProof.Rows.All
import PyProof.Rows.Walk
import PyProof.SeqIndex
import PySem.Challenge.RW_letterall_k45_claims_looked_over
set_option Elab.async false
set_option maxRecDepth 100000
set_option linter.unusedVariables false
/-! HeadA: what the run of a law's head looks at. -/
namespace Ev
open PySem PySem.Spec PyProof.Rows L2
theorem run_two {α β γ δ : Type} {x : Option α} {f : α → β} {g : α → γ} {h : α → δ} {a : β} {b : γ} {c : δ} (h1 : x.map (fun s => (f s, g s)) = some (a, b)) (h2 : x.map h = some c) : x.map (fun s => (f s, g s, h s)) = some (a, b, c) := by
  cases x with
  | none => cases h1
  | some s =>
    have e1 : (f s, g s) = (a, b) := Option.some.inj h1
    have e2 : h s = c := Option.some.inj h2
    cases e1; cases e2; rfl
theorem run_parts {α C D : Type} {x : Option α} {A B E : α → Bool} {F : α → C} {G : α → D} {c : C} {d : D} (h1 : x.map (fun s => A s && E s) = some true) (h2 : x.map B = some true) (h3 : x.map (fun s => (F s, G s)) = some (c, d)) :
    x.map (fun s => (((A s && B s, F s), G s), E s)) = some (((true, c), d), true) := by
  cases x with
  | none => cases h1
  | some s =>
    have e1 : (A s && E s) = true := Option.some.inj h1
    have e2 : B s = true := Option.some.inj h2
    have e3 : (F s, G s) = (c, d) := Option.some.inj h3
    rw [Bool.and_eq_true] at e1
    cases e3
    show some (((A s && B s, F s), G s), E s) = _
    rw [e1.1, e1.2, e2]; rfl
section
variable {K : PySem.W.Frag}
/-- class C's method m is B's -/
abbrev Sm : Type := Str × Str × Str
def smB (K : PySem.W.Frag) (q : Sm) : Bool := decide (He.ma K (He.ga K q.1) q.2.2 = He.ma K (He.ga K q.2.1) q.2.2)
/-- a dict's value is a tuple of texts -/
abbrev Tx : Type := Str × Str × List Str
def txB (K : PySem.W.Frag) (q : Tx) : Bool := match PySem.W.nsIn K (He.ga K q.1) q.2.1 with
  | some (some (.ref e)) => (match K.lookup e with
    | some ⟨.type c, _, .seq its _, _⟩ => decide (c = "tuple") && (decide (its.size ≤ 1000) && He.relAll (q.2.2.map V.str) its.toList)
    | _ => false)
  | _ => false
/-- a dict has not this key -/
abbrev Nk : Type := Str × Str
def nkB (K : PySem.W.Frag) (q : Nk) : Bool := He.eqO (PySem.W.nsIn K (He.ga K q.1) q.2) (some none)
/-- an exceptions' class as isinstance asks it -/
def xcB (K : PySem.W.Frag) (x : Str) : Bool := He.eqO (PySem.W.findIn K (.ref (He.ga K x)) "__getattribute__") (some (some (.builtin "BaseException.__getattribute__"))) && (He.eqO (PySem.W.findIn K (.ref (He.ga K x)) "__getattr__") (some none) &&
  (decide (PySem.W.subIn K (.ref (He.ga K x)) (.type "BaseException") = some true) && (PySem.W.hasDictIn K (He.ga K x) && (He.eqO (PySem.W.findIn K (.ref (He.ga K x)) "__class__") (some (some (.builtin "object.__class__"))) &&
  (He.eqO (PySem.W.specialIn K (.builtin "object.__class__") "__get__") (some (some (.builtin "getset_descriptor.__get__"))) && (decide (PySem.W.takesIn K (.builtin "object.__class__") = some true) && decide (PySem.W.mroIn K (He.ga K x) (.type "object") = some true)))))))
def koB (K : PySem.W.Frag) (q : Str × Str × Bool) : Bool := decide (PySem.W.kitOne K (.ref (He.ga K q.1)) (.ref (He.ga K q.2.1)) = some q.2.2)
def ktB (K : PySem.W.Frag) (q : Str × String × Bool) : Bool := decide (PySem.W.kitOne K (.ref (He.ga K q.1)) (.type q.2.1) = some q.2.2)
/-- an exceptions' class with an __init__ of its own -/
def oxB (K : PySem.W.Frag) (x : Str) : Bool := (match K.lookup (He.ga K x) with
  | some ⟨.type "type", _, .cls cd, sl⟩ => (match cd.mro, sl.toList with
    | .ref C' :: bm, [_, _, _, _, some (.builtin n), _] => C' == He.ga K x && n == "ValueError.__new__" && !cd.hasDel && cd.hasDict && PySem.HandSPX.refsVE bm
    | _, _ => false)
  | _ => false) && (He.eqO (PySem.W.findIn K (.ref (He.ga K x)) "__setattr__") (some (some (.builtin "object.__setattr__"))) && (decide (PySem.W.subIn K (.ref (He.ga K x)) (.type "BaseException") = some true) && (decide (PySem.W.typeIn K (.ref (He.ga K x)) = some (.type "type")) &&
  (PySem.W.keepIn K (.ref (He.ga K x)) && (He.eqO (PySem.W.findIn K (.ref (He.ga K x)) "__init__") (some (some (.ref (He.ma K (He.ga K x) "__init__")))) && decide (PySem.W.typeIn K (.ref (He.ma K (He.ga K x) "__init__")) = some (.type "function")))))))
/-- the class whose __init__ such a one calls -/
def bsB (K : PySem.W.Frag) (x : Str) : Bool := He.eqO (PySem.W.specialIn K (.ref (He.ga K x)) "__getattribute__") (some (some (.builtin "type.__getattribute__"))) && (PySem.W.readsIn K (He.ga K x) (.type "type") && (match PySem.W.findCls K (.ref (He.ga K x)) (.type "type") "__init__" with
  | some (.val (.builtin n)) => n == "ValueError.__init__"
  | _ => false))
def exB (ss : List Sm) (ts : List Tx) (ns : List Nk) (xs : List Str) (ko : List (Str × Str × Bool)) (kt : List (Str × String × Bool)) (ox bs : List Str) (K : PySem.W.Frag) : Bool := ss.all (smB K) && (ts.all (txB K) && (ns.all (nkB K) && (xs.all (xcB K) && (ko.all (koB K) && (kt.all (ktB K) && (ox.all (oxB K) && bs.all (bsB K)))))))
section
variable {ss : List Sm} {ts : List Tx} {ns : List Nk} {xs : List Str} {ko : List (Str × Str × Bool)} {kt : List (Str × String × Bool)} {ox bs : List Str}
theorem exB_xc (h : exB ss ts ns xs ko kt ox bs K = true) {q : Str} (i : Nat) (e : xs[i]? = some q) : xcB K q = true :=
  List.all_eq_true.mp (He.ba (He.ba (He.ba (He.ba h).2).2).2).1 q (List.mem_of_getElem? e)
theorem exB_ko (h : exB ss ts ns xs ko kt ox bs K = true) {q : Str × Str × Bool} (i : Nat) (e : ko[i]? = some q) : PySem.W.kitOne K (.ref (He.ga K q.1)) (.ref (He.ga K q.2.1)) = some q.2.2 :=
  of_decide_eq_true (List.all_eq_true.mp (He.ba (He.ba (He.ba (He.ba (He.ba h).2).2).2).2).1 q (List.mem_of_getElem? e))
theorem exB_kt (h : exB ss ts ns xs ko kt ox bs K = true) {q : Str × String × Bool} (i : Nat) (e : kt[i]? = some q) : PySem.W.kitOne K (.ref (He.ga K q.1)) (.type q.2.1) = some q.2.2 :=
  of_decide_eq_true (List.all_eq_true.mp (He.ba (He.ba (He.ba (He.ba (He.ba (He.ba h).2).2).2).2).2).1 q (List.mem_of_getElem? e))
end
end
/-! ### the hook, with the interpreter's own statics in the fragment -/
section
variable {n : Nat} {fa : List He.Fa} {fn : List He.DefD} {ts : List He.Tab} {ex : PySem.W.Frag → Bool}
end
/-! ### the heap's objects as a tree, made once -/
inductive OT where
  | nil | node (o : Obj) (l r : OT)
def OT.get : OT → Nat → Option Obj
  | .nil, _ => none
  | .node o l r, i => match Nat.beq i 0 with
    | true => some o
    | false => match Nat.beq (i % 2) 1 with
      | true => l.get (i / 2)
      | false => r.get (i / 2 - 1)
def halves : List Obj → List Obj × List Obj
  | [] => ([], [])
  | o :: r => (o :: (halves r).2, (halves r).1)
def OT.of : Nat → List Obj → OT
  | 0, _ => .nil
  | _ + 1, [] => .nil
  | k + 1, o :: r => .node o (OT.of k (halves r).1) (OT.of k (halves r).2)
theorem halves_get : ∀ (l : List Obj) (i : Nat), (halves l).1[i]? = l[2 * i]? ∧ (halves l).2[i]? = l[2 * i + 1]?
  | [], i => by simp [halves]
  | o :: r, i => by
    unfold halves
    have ih := halves_get r
    refine ⟨?_, ?_⟩
    · cases i with
      | zero => rfl
      | succ i =>
        rw [List.getElem?_cons_succ, (ih i).2, show 2 * (i + 1) = 2 * i + 1 + 1 by omega, List.getElem?_cons_succ]
    · rw [(ih i).1, List.getElem?_cons_succ]
theorem halves_len : ∀ l : List Obj, (halves l).1.length ≤ (l.length + 1) / 2 ∧ (halves l).2.length ≤ l.length / 2
  | [] => by simp [halves]
  | o :: r => by
    have ih := halves_len r
    unfold halves
    simp only [List.length_cons]
    omega
theorem OT.of_get : ∀ (k : Nat) (l : List Obj) (i : Nat), l.length < 2 ^ k → (OT.of k l).get i = l[i]?
  | 0, l, i, h => by
    have : l = [] := List.length_eq_zero_iff.mp (by simpa using h)
    subst this
    simp [OT.of, OT.get]
  | k + 1, [], i, h => by simp [OT.of, OT.get]
  | k + 1, o :: r, i, h => by
    have hl := halves_len r
    rw [List.length_cons, Nat.pow_succ] at h
    unfold OT.of OT.get
    have b0 : Nat.beq i 0 = decide (i = 0) := by rw [Bool.eq_iff_iff]; simp [Nat.beq_eq]
    have b1 : Nat.beq (i % 2) 1 = decide (i % 2 = 1) := by rw [Bool.eq_iff_iff]; simp [Nat.beq_eq]
    rw [b0, b1]
    by_cases h0 : i = 0
    · subst h0; rfl
    · rw [decide_eq_false h0]
      by_cases h1 : i % 2 = 1
      · rw [decide_eq_true h1]
        show (OT.of k (halves r).1).get (i / 2) = _
        rw [OT.of_get k _ _ (by omega), (halves_get r _).1]
        obtain ⟨j, rfl⟩ : ∃ j, i = j + 1 := ⟨i - 1, by omega⟩
        rw [List.getElem?_cons_succ]
        congr 1
        omega
      · rw [decide_eq_false h1]
        show (OT.of k (halves r).2).get (i / 2 - 1) = _
        rw [OT.of_get k _ _ (by omega), (halves_get r _).2]
        obtain ⟨j, rfl⟩ : ∃ j, i = j + 1 := ⟨i - 1, by omega⟩
        rw [List.getElem?_cons_succ]
        congr 1
        omega
/-- an object, off that tree -/
def OT.at (t : OT) (a : Nat) : Option Obj := match t.get a with
  | some ⟨_, _, .freed, _⟩ => none
  | o => o
/-! ### constants that are tuples, of tuples too -/
/-! ### the hook, with tables of code objects -/
def obsT (as : List Addr) (fa : List He.Fa) (fn : List He.DefD) (ts : List He.Tab) (tf : List He.Defn) (ex : PySem.W.Frag → Bool) (g : Addr → Option Obj) : He.AlX := (He.obsT fa fn ts (He.frT g as), ex (He.frT g as) && He.tabsB g tf (He.frT g as))
theorem saysT {as : List Addr} {fa : List He.Fa} {fn : List He.DefD} {ts : List He.Tab} {tf : List He.Defn} {ex : PySem.W.Frag → Bool} {w : World} {h : Heap} (e : obsT as fa fn ts tf ex h.get? = He.valX fn ts w) : He.SaysX fa fn ts tf ex w h (He.frT h.get? as) := by
  obtain ⟨h1, h2⟩ := He.ba (show (ex (He.frT h.get? as) && He.tabsB h.get? tf (He.frT h.get? as)) = true from congrArg (fun z : He.AlX => z.2) e)
  have one : ∀ p ∈ tf, PySem.W.codeHdIn (He.frT h.get? as) (He.cT (He.frT h.get? as) p).1 (He.cT (He.frT h.get? as) p).2 = true ∧ ∃ o, h.get? (He.cT (He.frT h.get? as) p).2 = some o ∧ He.emptyTab o = true := fun p hp => by
    obtain ⟨a, b⟩ := He.ba (List.all_eq_true.mp h2 p hp)
    refine ⟨a, ?_⟩
    split at b
    · rename_i o q; exact ⟨o, q, b⟩
    · cases b
  refine ⟨congrArg (fun z : He.AlX => z.1) e, h1, fun p hp => (one p hp).1, fun p hp => ?_, fun p hp => ?_⟩
  · obtain ⟨_, o, q, z⟩ := one p hp
    exact He.frT_none q z
  · obtain ⟨_, o, q, z⟩ := one p hp
    rw [q, He.emptyTab_eq z]
def hookT (as : List Addr) (fa : List He.Fa) (fn : List He.DefD) (ts : List He.Tab) (tf : List He.Defn) (ex : PySem.W.Frag → Bool) : PySem.W.Hook where
  α := He.AlX
  obs := fun s => obsT as fa fn ts tf ex s.heap.get?
  val := fun w => He.valX fn ts w
  says := fun w h => ∃ K : PySem.W.Frag, K.In h ∧ He.SaysX fa fn ts tf ex w h K
  of := fun _ _ e => ⟨_, He.frT_in, saysT e⟩
  keeps := fun _ _ _ ⟨K, hK, c⟩ k => ⟨K, PySem.W.Frag.In.keeps hK k, ⟨c.t, c.more, c.hd, c.out, fun p hp => k _ _ (c.empty p hp)⟩⟩
theorem obsT_eq {as : List Addr} {fa : List He.Fa} {fn : List He.DefD} {ts : List He.Tab} {tf : List He.Defn} {ex : PySem.W.Frag → Bool} {g : Addr → Option Obj} {s : Shared} (h : ∀ a, g a = s.heap.get? a) : obsT as fa fn ts tf ex g = (hookT as fa fn ts tf ex).obs s := by
  cases (funext h : g = s.heap.get?)
  rfl
/-- the tables stand at places of their own -/
def ndB (tf : List He.Defn) (K : PySem.W.Frag) : Bool := decide ((tf.map fun p => (He.cT K p).2).Nodup)
def exD (tf : List He.Defn) (ex : PySem.W.Frag → Bool) (K : PySem.W.Frag) : Bool := ex K && ndB tf K
theorem exD_e {tf : List He.Defn} {ex : PySem.W.Frag → Bool} {K : PySem.W.Frag} (h : exD tf ex K = true) : ex K = true := (He.ba h).1
theorem exD_n {tf : List He.Defn} {ex : PySem.W.Frag → Bool} {K : PySem.W.Frag} (h : exD tf ex K = true) : ndB tf K = true := (He.ba h).2
end Ev
set_option maxHeartbeats 2000000
namespace Ev.K45
open PySem PySem.Spec PyProof.Rows L2 Ev
def top (i : Nat) : Stmt := PySem.Challenge.pw_letterall_k45_claims_looked_over.main.body.getD i (.Pass ⟨0, 0, 0, 0⟩)
abbrev st__law_cell_at : Stmt := top 23
abbrev st__law_mixed : Stmt := top 24
abbrev st__law_draws : Stmt := top 25
abbrev st__law_bounds : Stmt := top 26
abbrev st__law_hand_test : Stmt := top 27
abbrev st__law_test : Stmt := top 28
abbrev st__law_claim : Stmt := top 29
abbrev st_is_told : Stmt := top 15
abbrev st_is_whole : Stmt := top 12
abbrev st_is_from : Stmt := top 13
abbrev st_is_bound : Stmt := top 16
abbrev st_is_box_test : Stmt := top 18
abbrev st_is_joined : Stmt := top 17
abbrev st_is_hand_test : Stmt := top 19
abbrev st_is_test : Stmt := top 20
abbrev st_look_over_claim : Stmt := top 21
abbrev st__law_turned : Stmt := top 30
abbrev st__law_odd : Stmt := top 31
abbrev st__law_spoiled : Stmt := top 32
abbrev st__law_form : Stmt := top 35
abbrev st__law_whole : Stmt := top 33
abbrev st__law_bound : Stmt := top 34
abbrev st__law_hand : Stmt := top 36
abbrev st__law_is_test : Stmt := top 37
abbrev st__law_is_claim : Stmt := top 38
abbrev st__law_refused : Stmt := top 39
abbrev st_law : Stmt := top 40
def d__law_cell_at : He.DefD := ⟨("_law_cell_at", none), "_law_cell_at", "_law_cell_at", defArgs st__law_cell_at, defBody st__law_cell_at, defScope st__law_cell_at, [], []⟩
def d__law_mixed : He.DefD := ⟨("_law_mixed", none), "_law_mixed", "_law_mixed", defArgs st__law_mixed, defBody st__law_mixed, defScope st__law_mixed, [], []⟩
def d__law_draws : He.DefD := ⟨("_law_draws", none), "_law_draws", "_law_draws", defArgs st__law_draws, defBody st__law_draws, defScope st__law_draws, [], []⟩
def d__law_bounds : He.DefD := ⟨("_law_bounds", none), "_law_bounds", "_law_bounds", defArgs st__law_bounds, defBody st__law_bounds, defScope st__law_bounds, [], []⟩
def d__law_hand_test : He.DefD := ⟨("_law_hand_test", none), "_law_hand_test", "_law_hand_test", defArgs st__law_hand_test, defBody st__law_hand_test, defScope st__law_hand_test, [], []⟩
def d__law_test : He.DefD := ⟨("_law_test", none), "_law_test", "_law_test", defArgs st__law_test, defBody st__law_test, defScope st__law_test, [], []⟩
def d__law_claim : He.DefD := ⟨("_law_claim", none), "_law_claim", "_law_claim", defArgs st__law_claim, defBody st__law_claim, defScope st__law_claim, [], []⟩
def d_is_told : He.DefD := ⟨("is_told", none), "is_told", "is_told", defArgs st_is_told, defBody st_is_told, defScope st_is_told, [], []⟩
def d_is_whole : He.DefD := ⟨("is_whole", none), "is_whole", "is_whole", defArgs st_is_whole, defBody st_is_whole, defScope st_is_whole, [], []⟩
def d_is_from : He.DefD := ⟨("is_from", none), "is_from", "is_from", defArgs st_is_from, defBody st_is_from, defScope st_is_from, [], []⟩
def d_is_bound : He.DefD := ⟨("is_bound", none), "is_bound", "is_bound", defArgs st_is_bound, defBody st_is_bound, defScope st_is_bound, [], []⟩
def d_is_box_test : He.DefD := ⟨("is_box_test", none), "is_box_test", "is_box_test", defArgs st_is_box_test, defBody st_is_box_test, defScope st_is_box_test, [], []⟩
def d_is_joined : He.DefD := ⟨("is_joined", none), "is_joined", "is_joined", defArgs st_is_joined, defBody st_is_joined, defScope st_is_joined, [], []⟩
def d_is_hand_test : He.DefD := ⟨("is_hand_test", none), "is_hand_test", "is_hand_test", defArgs st_is_hand_test, defBody st_is_hand_test, defScope st_is_hand_test, [], []⟩
def d_is_test : He.DefD := ⟨("is_test", none), "is_test", "is_test", defArgs st_is_test, defBody st_is_test, defScope st_is_test, [], []⟩
def d_look_over_claim : He.DefD := ⟨("look_over_claim", none), "look_over_claim", "look_over_claim", defArgs st_look_over_claim, defBody st_look_over_claim, defScope st_look_over_claim, [], []⟩
def d__law_turned : He.DefD := ⟨("_law_turned", none), "_law_turned", "_law_turned", defArgs st__law_turned, defBody st__law_turned, defScope st__law_turned, [], []⟩
def d__law_odd : He.DefD := ⟨("_law_odd", none), "_law_odd", "_law_odd", defArgs st__law_odd, defBody st__law_odd, defScope st__law_odd, [], []⟩
def d__law_spoiled : He.DefD := ⟨("_law_spoiled", none), "_law_spoiled", "_law_spoiled", defArgs st__law_spoiled, defBody st__law_spoiled, defScope st__law_spoiled, [], []⟩
def d__law_form : He.DefD := ⟨("_law_form", none), "_law_form", "_law_form", defArgs st__law_form, defBody st__law_form, defScope st__law_form, [], []⟩
def d__law_whole : He.DefD := ⟨("_law_whole", none), "_law_whole", "_law_whole", defArgs st__law_whole, defBody st__law_whole, defScope st__law_whole, [], []⟩
def d__law_bound : He.DefD := ⟨("_law_bound", none), "_law_bound", "_law_bound", defArgs st__law_bound, defBody st__law_bound, defScope st__law_bound, [], []⟩
def d__law_hand : He.DefD := ⟨("_law_hand", none), "_law_hand", "_law_hand", defArgs st__law_hand, defBody st__law_hand, defScope st__law_hand, [], []⟩
def d__law_is_test : He.DefD := ⟨("_law_is_test", none), "_law_is_test", "_law_is_test", defArgs st__law_is_test, defBody st__law_is_test, defScope st__law_is_test, [], []⟩
def d__law_is_claim : He.DefD := ⟨("_law_is_claim", none), "_law_is_claim", "_law_is_claim", defArgs st__law_is_claim, defBody st__law_is_claim, defScope st__law_is_claim, [], []⟩
def d__law_refused : He.DefD := ⟨("_law_refused", none), "_law_refused", "_law_refused", defArgs st__law_refused, defBody st__law_refused, defScope st__law_refused, [], []⟩
def d_law : He.DefD := ⟨("law", none), "law", "law", defArgs st_law, defBody st_law, defScope st_law, [], []⟩
def fns : List He.DefD := ([d__law_cell_at, d__law_mixed, d__law_draws, d__law_bounds, d__law_hand_test, d__law_test, d__law_claim, d_is_told, d_is_whole, d_is_from, d_is_bound, d_is_box_test, d_is_joined, d_is_hand_test, d_is_test, d_look_over_claim, d__law_turned, d__law_odd, d__law_spoiled, d__law_form, d__law_whole, d__law_bound, d__law_hand, d__law_is_test, d__law_is_claim, d__law_refused, d_law] : List He.DefD)
def fcsA : List He.Fa := ([.glo "law", .glo "CantKnow", .glo "LetterError", .glo "NoClaim", .glo "NoLine", .glo "NoMove", .glo "NoProgram", .glo "NoRenaming", .glo "NoStep", .glo "NoTalk", .glo "NoText", .free "bool", .free "int", .free "isinstance", .free "len", .free "list", .free "max", .free "min", .free "range", .free "sorted", .free "str", .free "tuple", .exc "NoClaim", .exm "NoClaim" "LetterError" true, .free "ValueError"] : List He.Fa)
def fcsB : List He.Fa := ([.glo "_law_cell_at", .glo "_law_mixed", .glo "_law_draws", .glo "_law_bounds", .glo "_law_hand_test", .glo "_law_test", .glo "_law_claim", .glo "is_told", .glo "is_whole", .glo "is_from", .glo "is_bound", .glo "is_box_test", .glo "is_joined", .glo "is_hand_test", .glo "is_test", .glo "look_over_claim", .glo "_law_turned", .glo "_law_odd", .glo "_law_spoiled", .glo "_law_form", .glo "_law_whole", .glo "_law_bound", .glo "_law_hand", .glo "_law_is_test", .glo "_law_is_claim", .glo "_law_refused"] : List He.Fa)
def fcs : List He.Fa := fcsA ++ fcsB
def tbs : List He.Tab := []
def sms : List Sm := []
def txs : List Tx := []
def nks : List Nk := []
def xcs : List Str := (["NoClaim"] : List Str)
def kos : List (Str × Str × Bool) := ([("NoClaim", "CantKnow", false), ("NoClaim", "NoClaim", true), ("NoClaim", "NoLine", false), ("NoClaim", "NoMove", false), ("NoClaim", "NoProgram", false), ("NoClaim", "NoRenaming", false), ("NoClaim", "NoStep", false), ("NoClaim", "NoTalk", false), ("NoClaim", "NoText", false)] : List (Str × Str × Bool))
def kts : List (Str × String × Bool) := ([("NoClaim", "ValueError", true)] : List (Str × String × Bool))
def oxs : List Str := []
def bss : List Str := []
def tfs : List He.Defn := [("is_hand_test", none), ("is_test", none)]
abbrev HR : PySem.W.OpenRow := PySem.W.OpenLaw.row PySem.Challenge.rw_letterall_k45_claims_looked_over
def ads : List PySem.Addr := [3, 24, 49, 170, 177, 184, 191, 198, 205, 212, 219, 226, 233, 240, 247, 254, 261, 268, 275, 282, 289, 296, 303, 310, 317, 322, 327, 332, 339, 346, 23, 48, 169, 176, 183, 190, 197, 204, 211, 218] ++ [225, 232, 239, 246, 253, 260, 267, 274, 281, 288, 295, 302, 309, 316, 321, 326, 331, 338, 345, 37, 61, 73, 85, 104, 123, 142, 161]
abbrev hk : PySem.W.Hook := hookT ads fcs fns tbs tfs (exD tfs (exB sms txs nks xcs kos kts oxs bss))
def ob (s : PySem.W.SharedT) : He.AlX := obsT ads fcs fns tbs tfs (exD tfs (exB sms txs nks xcs kos kts oxs bss)) (HandSHeadRun.getT s)
theorem ob_eq (s : PySem.W.SharedT) : ob s = hk.obs s.abs := obsT_eq (HandSHeadRun.getT_eq s)
def loose : List Str := (["LetterError", "NoStep", "NoClaim", "NoRenaming", "NoText", "NoLine", "NoProgram", "NoMove", "NoTalk", "CantKnow", "is_whole", "is_from", "is_told", "is_bound", "is_joined", "is_box_test", "is_hand_test", "is_test", "look_over_claim", "_law_cell_at", "_law_mixed", "_law_draws", "_law_bounds", "_law_hand_test", "_law_test", "_law_claim", "_law_turned", "_law_odd", "_law_spoiled", "_law_whole"] : List Str) ++ (["_law_bound", "_law_form", "_law_hand", "_law_is_test", "_law_is_claim", "_law_refused"] : List Str)
open PySem.W PySem.Calls PyProof.Rows
noncomputable def eR (w : World) (os : OsState) : Option PySem.W.SharedT := HandSHeadRun.endF (HandSHeadRun.stepQ (HandSHeadRun.denQ HandSHeadRun.tabQ) HR.prog w) 12000 HR.prog w os
theorem runFA (w : World) (os : OsState) : (eR (w.withFollow "special-get-raises" false) os).map (fun s => (HandSHeadRun.looksF HR.prog (boot_heap (w.withFollow "special-get-raises" false).params) s.abs, HandSHeadRun.seenQ (PySem.W.view HR.prog [40]) loose (importedModules HR.prog.main.body) (fun s => PySem.W.xlAt (PySem.W.view HR.prog [40]) [] s && PySem.W.recOk HR.toRowW.records s) s.abs)) = some (true, PySem.W.openGood (PySem.W.view HR.prog [40]) loose) := by kernel_rfl
theorem runFB (w : World) (os : OsState) : (eR (w.withFollow "special-get-raises" false) os).map (fun s => fcs.all (fun f => f.ok (He.frT (HandSHeadRun.getT s) ads)) && ((exD tfs (exB sms txs nks xcs kos kts oxs bss)) (He.frT (HandSHeadRun.getT s) ads) && He.tabsB (HandSHeadRun.getT s) tfs (He.frT (HandSHeadRun.getT s) ads))) = some true := by kernel_rfl
theorem runFC (w : World) (os : OsState) : (eR (w.withFollow "special-get-raises" false) os).map (fun s => fns.all (fun d => d.ok (He.frT (HandSHeadRun.getT s) ads))) = some true := by kernel_rfl
theorem runFD (w : World) (os : OsState) : (eR (w.withFollow "special-get-raises" false) os).map (fun s => (fns.map (fun d => He.fnW (He.frT (HandSHeadRun.getT s) ads) d.at_), tbs.map (fun t => He.dicW (He.frT (HandSHeadRun.getT s) ads) (t.1 (He.frT (HandSHeadRun.getT s) ads))))) = some (fns.map He.DefD.val, tbs.map fun t => some (He.keysIn (w.withFollow "special-get-raises" false).params t.2)) := by kernel_rfl
theorem ob_is : ob = fun s => (((fcs.all (fun f => f.ok (He.frT (HandSHeadRun.getT s) ads)) && fns.all (fun d => d.ok (He.frT (HandSHeadRun.getT s) ads)), fns.map (fun d => He.fnW (He.frT (HandSHeadRun.getT s) ads) d.at_)), tbs.map (fun t => He.dicW (He.frT (HandSHeadRun.getT s) ads) (t.1 (He.frT (HandSHeadRun.getT s) ads)))), ((exD tfs (exB sms txs nks xcs kos kts oxs bss)) (He.frT (HandSHeadRun.getT s) ads) && He.tabsB (HandSHeadRun.getT s) tfs (He.frT (HandSHeadRun.getT s) ads))) := rfl
theorem runF3 (w : World) (os : OsState) : (eR (w.withFollow "special-get-raises" false) os).map ob = some (hk.val (w.withFollow "special-get-raises" false)) := by
  rw [ob_is]
  exact run_parts (runFB w os) (runFC w os) (runFD w os)
theorem runF (w : World) : HandSHeadRun.RunEq HR (PySem.W.view HR.prog [40]) hk ob 12000 loose (w.withFollow "special-get-raises" false) := by
  intro os
  have h := run_two (runFA w os) (runF3 w os)
  exact h
theorem runTA (w : World) (os : OsState) : (eR (w.withFollow "special-get-raises" true) os).map (fun s => (HandSHeadRun.looksF HR.prog (boot_heap (w.withFollow "special-get-raises" true).params) s.abs, HandSHeadRun.seenQ (PySem.W.view HR.prog [40]) loose (importedModules HR.prog.main.body) (fun s => PySem.W.xlAt (PySem.W.view HR.prog [40]) [] s && PySem.W.recOk HR.toRowW.records s) s.abs)) = some (true, PySem.W.openGood (PySem.W.view HR.prog [40]) loose) := by kernel_rfl
theorem runTB (w : World) (os : OsState) : (eR (w.withFollow "special-get-raises" true) os).map (fun s => fcs.all (fun f => f.ok (He.frT (HandSHeadRun.getT s) ads)) && ((exD tfs (exB sms txs nks xcs kos kts oxs bss)) (He.frT (HandSHeadRun.getT s) ads) && He.tabsB (HandSHeadRun.getT s) tfs (He.frT (HandSHeadRun.getT s) ads))) = some true := by kernel_rfl
theorem runTC (w : World) (os : OsState) : (eR (w.withFollow "special-get-raises" true) os).map (fun s => fns.all (fun d => d.ok (He.frT (HandSHeadRun.getT s) ads))) = some true := by kernel_rfl
theorem runTD (w : World) (os : OsState) : (eR (w.withFollow "special-get-raises" true) os).map (fun s => (fns.map (fun d => He.fnW (He.frT (HandSHeadRun.getT s) ads) d.at_), tbs.map (fun t => He.dicW (He.frT (HandSHeadRun.getT s) ads) (t.1 (He.frT (HandSHeadRun.getT s) ads))))) = some (fns.map He.DefD.val, tbs.map fun t => some (He.keysIn (w.withFollow "special-get-raises" true).params t.2)) := by kernel_rfl
theorem runT3 (w : World) (os : OsState) : (eR (w.withFollow "special-get-raises" true) os).map ob = some (hk.val (w.withFollow "special-get-raises" true)) := by
  rw [ob_is]
  exact run_parts (runTB w os) (runTC w os) (runTD w os)
theorem runT (w : World) : HandSHeadRun.RunEq HR (PySem.W.view HR.prog [40]) hk ob 12000 loose (w.withFollow "special-get-raises" true) := by
  intro os
  have h := run_two (runTA w os) (runT3 w os)
  exact h
theorem run (w : World) : HandSHeadRun.RunEq HR (PySem.W.view HR.prog [40]) hk ob 12000 loose w := PySem.W.byRow2 "special-get-raises" (P := fun w => HandSHeadRun.RunEq HR (PySem.W.view HR.prog [40]) hk ob 12000 loose w) runF runT w
end Ev.K45
/-! Ev0: sorted, of a list of tuples of ints, any number of them. -/
namespace Ev
open PySem PySem.Spec PyProof.Rows L2
/-- a tuple of these ints -/
def IntT (h : Heap) (v : Value) (ns : List Int) : Prop := ∃ a o its n, v = .ref a ∧ h.get? a = some o ∧ o.cls = .type "tuple" ∧ o.data = .seq its n ∧ IntsAre its.toList ns
theorem IntT.keeps {h h' : Heap} {v : Value} {ns : List Int} (p : IntT h v ns) (k : ∀ b o, h.get? b = some o → o.cls = .type "tuple" → h'.get? b = some o) : IntT h' v ns := by
  obtain ⟨a, o, t, n, e, ho, hc, hd, hi⟩ := p
  exact ⟨a, o, t, n, e, k _ _ ho hc, hc, hd, hi⟩
def lexf (fin : Bool) : List Int → List Int → Bool
  | x :: xs, y :: ys => if x = y then lexf fin xs ys else decide (x < y)
  | _, _ => fin
theorem lexf_eq : ∀ {ns ms : List Int} {a b : Nat}, ns.length + b = ms.length + a → lexf (decide (a < b)) ns ms = HT.lexLt ns ms
  | [], [], a, b, h => by
    unfold lexf HT.lexLt
    exact decide_eq_false (by simp at h; omega)
  | [], y :: ys, a, b, h => by
    unfold lexf HT.lexLt
    exact decide_eq_true (by simp at h; omega)
  | x :: xs, [], a, b, h => by
    unfold lexf HT.lexLt
    exact decide_eq_false (by simp at h; omega)
  | x :: xs, y :: ys, a, b, h => by
    unfold lexf HT.lexLt
    rw [lexf_eq (by simp at h; omega)]
section
variable {prog : Program} {w : World} {A : Around} {s : Shared}
theorem lex_kat {fin : Bool} {R : Bool} : ∀ {vs ws : List Value} {ns ms : List Int} {i : Nat}, IntsAre vs ns → IntsAre ws ms → R = lexf fin ns ms → PySem.W.KatLex prog w A true fin (fun r s' => s' = s ∧ r = R) (vs.zip ws) i s := by
  intro vs ws ns ms i h1
  induction h1 generalizing ws ms i with
  | nil => intro h2 e; exact PySem.W.kat_nil ⟨rfl, by rw [e]; unfold lexf; rfl⟩
  | cons x t h1 ih =>
    intro h2 e
    cases h2 with
    | nil => exact PySem.W.kat_nil ⟨rfl, by rw [e]; unfold lexf; rfl⟩
    | cons y u h2 =>
      rw [List.zip_cons_cons]
      unfold lexf at e
      refine PySem.W.kat_cons (SeqAt.EqAt.int_int x t y u prog w _ _ ?_)
      refine PySem.W.kat_go (fun e1 => ?_) (fun e1 => ?_)
      · have ex : x = y := by simpa using e1
        rw [if_pos ex] at e
        exact PySem.W.kat_yes (ih h2 e)
      · have ex : ¬ x = y := by simpa using e1
        rw [if_neg ex] at e
        refine PySem.W.kat_no ?_
        cases hb : (true && i == 0) with
        | true => exact oneLt_int ⟨rfl, e.symm⟩
        | false => exact PySem.W.kat_one _ _ (PyProof.Rows.lt_int (Q := PySem.W.BoolBack fun r s' => s' = s ∧ r = R) (show s = s ∧ decide (x < y) = R from ⟨rfl, e.symm⟩))
theorem lex_asym : ∀ {a b : List Int}, HT.lexLt a b = true → HT.lexLt b a = false
  | [], [], h => by unfold HT.lexLt at h; cases h
  | [], _ :: _, _ => by unfold HT.lexLt; rfl
  | _ :: _, [], h => by unfold HT.lexLt at h; cases h
  | x :: xs, y :: ys, h => by
    rw [HT.lexLt_cons] at h ⊢
    by_cases e : x = y
    · rw [if_pos e] at h; rw [if_pos e.symm]; exact lex_asym h
    · rw [if_neg e, decide_eq_true_eq] at h
      rw [if_neg (Ne.symm e)]
      exact decide_eq_false (by omega)
theorem lex_tr : ∀ {a b c : List Int}, HT.lexLt b a = false → HT.lexLt c b = false → HT.lexLt c a = false
  | [], _, [], _, _ => by unfold HT.lexLt; rfl
  | [], [], _ :: _, _, h => h
  | [], y :: ys, z :: zs, _, _ => by unfold HT.lexLt; rfl
  | x :: xs, [], _, h, _ => by rw [HT.lexLt_nil_cons] at h; cases h
  | x :: xs, y :: ys, [], _, h => by rw [HT.lexLt_nil_cons] at h; cases h
  | x :: xs, y :: ys, z :: zs, h1, h2 => by
    rw [HT.lexLt_cons] at h1 h2 ⊢
    by_cases e1 : y = x
    · rw [if_pos e1] at h1
      by_cases e2 : z = y
      · rw [if_pos e2] at h2; rw [if_pos (e2.trans e1)]; exact lex_tr h1 h2
      · rw [if_neg e2, decide_eq_false_iff_not] at h2
        rw [if_neg (fun e => e2 (e.trans e1.symm))]
        exact decide_eq_false (by omega)
    · rw [if_neg e1, decide_eq_false_iff_not] at h1
      by_cases e2 : z = y
      · rw [if_neg (fun e => e1 (e2.symm.trans e))]
        exact decide_eq_false (by omega)
      · rw [if_neg e2, decide_eq_false_iff_not] at h2
        by_cases e3 : z = x
        · omega
        · rw [if_neg e3]; exact decide_eq_false (by omega)
theorem lex_tot : ∀ {a b : List Int}, HT.lexLt a b = false → HT.lexLt b a = false → a = b
  | [], [], _, _ => rfl
  | [], y :: ys, h, _ => by rw [HT.lexLt_nil_cons] at h; cases h
  | x :: xs, [], _, h => by rw [HT.lexLt_nil_cons] at h; cases h
  | x :: xs, y :: ys, h1, h2 => by
    rw [HT.lexLt_cons] at h1 h2
    by_cases e : x = y
    · rw [if_pos e] at h1; rw [if_pos e.symm] at h2; rw [e, lex_tot h1 h2]
    · rw [if_neg e, decide_eq_false_iff_not] at h1
      rw [if_neg (Ne.symm e), decide_eq_false_iff_not] at h2
      omega
theorem swo_lexL (k : Value → List Int) : SrtO.Swo fun v u => HT.lexLt (k v) (k u) := ⟨fun _ _ h => lex_asym h, fun _ _ _ h1 h2 => lex_tr h1 h2⟩
theorem ti_cmp {vs : List Value} {k : Value → List Int} (hp : ∀ v ∈ vs, IntT s.heap v (k v)) : SrtO.Cmp prog w A s (tuples' true) (fun p => p.1 ∈ vs) (SrtO.lt2 fun v u => HT.lexLt (k v) (k u)) := by
  intro p q hm hm'
  obtain ⟨a, o, t, n, e, ho, hc, hd, hi⟩ := hp _ hm
  obtain ⟨a', o', t', n', e', ho', hc', hd', hi'⟩ := hp _ hm'
  show wpAny (model prog w) A (keyLt' (tuples' true) p.1 q.1) (fun r s' => s' = s ∧ r = HT.lexLt (k p.1) (k q.1)) (fun _ _ => False) s
  have l1 : t.size = (k p.1).length := by have := hi.length; simpa using this
  have l2 : t'.size = (k q.1).length := by have := hi'.length; simpa using this
  rw [e, e']
  refine PySem.W.kat_lt ho hd ho' hd' (lex_kat hi hi' ?_)
  rw [lexf_eq (by omega), ← e, ← e']
theorem firsts_ti {h : Heap} : ∀ {vs : List Value}, (∀ v ∈ vs, ∃ n ns, IntT h v (n :: ns)) → ∃ fs : List Value, PySem.W.KatTups h vs fs ∧ fs.length = vs.length ∧ ∀ f ∈ fs, ∃ x t, f = Value.int x t
  | [], _ => ⟨[], PySem.W.KatTups.nil, rfl, fun _ hm => by simp at hm⟩
  | v :: vs, hp => by
    obtain ⟨fs, h1, h2, h3⟩ := firsts_ti (vs := vs) fun u hm => hp u (List.mem_cons_of_mem _ hm)
    obtain ⟨x, ns, a, o, its, n, e, ho, hc, hd, hi⟩ := hp v (List.mem_cons_self ..)
    subst e
    obtain ⟨t, r, hr⟩ : ∃ t r, its.toList = .int x t :: r := by
      generalize its.toList = l at hi
      cases hi with
      | cons _ t _ => exact ⟨t, _, rfl⟩
    have h0 : its[0]? = some (.int x t) := by
      rw [← Array.getElem?_toList, hr]; rfl
    refine ⟨.int x t :: fs, PySem.W.KatTups.cons ho hc hd h0 h1, by rw [List.length_cons, List.length_cons, h2], fun f hm => ?_⟩
    rcases List.mem_cons.mp hm with rfl | hm
    · exact ⟨x, t, rfl⟩
    · exact h3 f hm
theorem ti_sortable {a : Addr} {vs : List Value} {k : Value → List Int} (h0 : 0 < vs.length) (hp : ∀ v ∈ vs, IntT s.heap v (k v)) (hk : ∀ v ∈ vs, k v ≠ []) (ha : ∀ o, s.heap.get? a = some o → o.cls ≠ .type "tuple") : SrtO.SortableO prog w A s a vs fun v u => HT.lexLt (k v) (k u) := by
  intro h' keep
  have hp' : ∀ v ∈ vs, IntT h' v (k v) := fun v hm => (hp v hm).keeps fun b o e c => keep b o (fun z => by subst z; exact ha o e c) e
  obtain ⟨fs, h1, h2, h3⟩ := firsts_ti (h := h') (vs := vs) fun v hm => by
    obtain ⟨n, ns, e⟩ := List.exists_cons_of_ne_nil (hk v hm)
    exact ⟨n, ns, by rw [← e]; exact hp' v hm⟩
  refine ⟨tuples' true, fun Q E hq => ?_, ti_cmp hp'⟩
  refine PySem.W.kat_kind (T := .type "int") h1 (by omega) (fun f hm => ?_) (by rfl) ?_
  · obtain ⟨x, t, rfl⟩ := h3 f hm
    exact PySem.W.Looks.now
  · have e : (Value.type "int" != Value.type "tuple") = true := by first | decide +kernel | rfl | decide
    rw [e]
    exact hq
end
/-- a reference to a tuple of these ints -/
def TupAt (K : PySem.W.Frag) (H : Hp) (x : V) (ns : List Int) : Prop := ∃ t, x = .ref t ∧ SqT K H t (ns.map V.int)
/-- sorted(xs), tuples of ints, none empty, any number of them -/
def rSortLx (K : PySem.W.Frag) : List V → Hp → VK → Prop := fun vs H Q => ∃ (a : Addr) (xs : List V), vs = [V.ref a] ∧ SqL K H a xs ∧ (∀ x ∈ xs, ∃ ns, TupAt K H x ns ∧ ns ≠ []) ∧
  ∀ (ys : List V) (p : Addr), ys.Perm xs → ys.Pairwise (fun x y => ∀ n m, TupAt K H x n → TupAt K H y m → HT.lexLt m n = false) → H p = none → Q (.ref p) (upd H p (.lst ys))
def bkv : Value → V
  | .ref a => .ref a
  | _ => .non
theorem bkv_of : ∀ {xs : List V} {us : List Value}, Vals xs us → (∀ x ∈ xs, ∃ a, x = V.ref a) → xs = us.map bkv ∧ ∀ u ∈ us, ∃ a, u = Value.ref a
  | _, _, .nil, _ => ⟨rfl, fun u hu => absurd hu (by simp)⟩
  | x :: xs, _ :: us, .cons r t, h => by
    obtain ⟨a, e⟩ := h x List.mem_cons_self
    subst e
    cases r
    obtain ⟨h1, h2⟩ := bkv_of t fun y hy => h y (List.mem_cons_of_mem _ hy)
    refine ⟨by rw [List.map_cons, ← h1] <;> rfl, fun u hu => ?_⟩
    rcases List.mem_cons.mp hu with e | hu
    · exact ⟨a, e⟩
    · exact h2 u hu
theorem vals_bkv : ∀ {us : List Value}, (∀ u ∈ us, ∃ a, u = Value.ref a) → Vals (us.map bkv) us
  | [], _ => .nil
  | u :: us, h => by
    obtain ⟨a, e⟩ := h u List.mem_cons_self
    subst e
    exact .cons (show RelV (.ref a) (.ref a) from rfl) (vals_bkv fun y hy => h y (List.mem_cons_of_mem _ hy))
theorem ints_inj : ∀ {ns ms : List Int}, ns.map V.int = ms.map V.int → ns = ms
  | [], [], _ => rfl
  | [], _ :: _, h => by cases h
  | _ :: _, [], h => by cases h
  | x :: xs, y :: ys, h => by
    rw [List.map_cons, List.map_cons] at h
    injection h with h1 h2
    injection h1 with h1
    rw [h1, ints_inj h2]
open Classical in
theorem cr_sortLx {X : Cx} : CallR X (.builtin "sorted") (rSortLx X.K) := by
  intro pins s σ H vs us Q I r h
  obtain ⟨a, xs, rfl, hs, hx, q⟩ := h
  obtain ⟨its, rv, hl, hz⟩ := I.list hs
  rw [Vals.ref1 r]
  obtain ⟨e1, e2⟩ := bkv_of rv fun x m => by obtain ⟨ns, ⟨t, e, _⟩, _⟩ := hx x m; exact ⟨t, e⟩
  have hzi : its.length ≤ sizeLine := by rw [← rv.length]; exact hz
  obtain ⟨key, hkey⟩ : ∃ key : V → List Int, ∀ x ∈ xs, TupAt X.K H x (key x) ∧ key x ≠ [] := ⟨fun x => if h : ∃ ns, TupAt X.K H x ns ∧ ns ≠ [] then Classical.choose h else [], fun x m => by
    have hh := hx x m
    dsimp only
    rw [dif_pos hh]
    exact Classical.choose_spec hh⟩
  have huniq : ∀ x n m, TupAt X.K H x n → TupAt X.K H x m → n = m := fun x n m ⟨t, e, h1⟩ ⟨t', e', h2⟩ => by
    subst e
    cases e'
    exact ints_inj (I.tuple_inj h1 h2)
  have hp : ∀ v ∈ its, IntT s.heap v (key (bkv v)) ∧ key (bkv v) ≠ [] := fun v hv => by
    obtain ⟨⟨t, et, hq⟩, hne⟩ := hkey (bkv v) (by rw [e1]; exact List.mem_map_of_mem hv)
    obtain ⟨b, eb⟩ := e2 v hv
    subst eb
    have et' : V.ref b = V.ref t := et
    injection et' with et'
    subst et'
    obtain ⟨its2, rv2, ⟨o, ho, hc, n, hd⟩, _⟩ := I.tuple hq
    exact ⟨⟨b, o, its2.toArray, n, rfl, ho, hc, hd, by simpa using rv2.ints⟩, hne⟩
  refine SrtO.sorted_ord (ltv := fun v u => HT.lexLt (key (bkv v)) (key (bkv u))) (swo_lexL fun v => key (bkv v)) hl.isList hzi (fun h2 h₁ a' ha' kk => ?_) fun out h1 h2 => ?_
  · refine ti_sortable (k := fun v => key (bkv v)) (by omega) (fun v hm => (hp v hm).1.keeps fun b o e _ => (kk b o e).2) (fun v hm => (hp v hm).2) fun o e => ?_
    have e' : some o = some (seqObj "list" its.toArray 0) := e.symm.trans ha'
    cases e'
    intro c
    exact absurd (Value.type.inj c) (by decide)
  · obtain ⟨ep, he'⟩ := PyProof.Rows.sortedAll_at s.heap its out.toArray
    have hperm := h2.perm
    have hrefs : ∀ u ∈ out, ∃ a, u = Value.ref a := fun u hu => e2 u (hperm.mem_iff.mp hu)
    have hlen : (out.map bkv).length ≤ sizeLine := by rw [List.length_map, hperm.length_eq]; exact hzi
    have hmem : ∀ u ∈ out, bkv u ∈ xs := fun u hu => by rw [e1]; exact List.mem_map_of_mem (hperm.mem_iff.mp hu)
    refine ⟨.ref _, upd H (s.heap.objs.size + 1) (.lst (out.map bkv)), I.laid (t' := s.toks) (fun _ _ => PyProof.Rows.sortedAll_old) (Nat.le_succ _) ⟨hlen, out, ep, vals_bkv hrefs, he'⟩, rfl, q _ _ ?_ ?_ (I.hok.fresh (Nat.le_succ _))⟩
    · rw [e1]; exact hperm.map bkv
    · rw [List.pairwise_map]
      refine List.Pairwise.imp_of_mem (fun {u v} hu hv h n m hn hm => ?_) h1
      rw [huniq _ _ _ hn (hkey _ (hmem u hu)).1, huniq _ _ _ hm (hkey _ (hmem v hv)).1]
      exact h
end Ev
/-! Ev1: data, stores, how they stand in the abstract heap. -/
namespace Ev
open PySem PySem.Spec PyProof.Rows L2

/-- a function made while a def runs: where it stands, its words, what its captured cells hold -/
structure Clo where
  a : Addr
  F : NdefX.NF
  ws : List V
  lam : Option Expr
/-- the object at f is a lambda, e what it tells -/
def FnLO (f : Addr) (F : NdefX.NF) (e : Expr) : HO := .ext fun h => ∃ (od : Option Addr) (sl : Array (Option Value)) (pm ctv : Value), h.get? f = some (⟨.type "function", od, .func (PySem.W.kla_fn F.name F.qual F.params e F.scope F.cl pm (.ref F.c) ctv), sl⟩ : Obj)
def hoOf (f : Addr) (F : NdefX.NF) : Option Expr → HO
  | none => NdefX.FnO f F
  | some e => FnLO f F e
theorem hoOf_ext {f : Addr} {F : NdefX.NF} {l : Option Expr} : ∃ φ, hoOf f F l = .ext φ := by
  cases l with
  | none => exact ⟨_, rfl⟩
  | some e => exact ⟨_, rfl⟩
theorem hoOf_ne {f : Addr} {F : NdefX.NF} {l : Option Expr} (ps : Array Value) : hoOf f F l ≠ .tbl ps := fun z => by
  obtain ⟨φ, e⟩ := hoOf_ext (f := f) (F := F) (l := l)
  rw [e] at z; cases z

/-- data: what a value is, as a tree; ref n: the n-th cell of the store; lst, obj, dk, dt: a new list, instance, dict that nobody holds yet; fro: a list that nobody writes -/
inductive D where
  | non | bl (b : Bool) | int (i : Int) | str (x : Str)
  | tup (ds : List D) | ptup (ds : List D) | ref (n : Nat) | fro (ds : List D)
  | lst (ds : List D) | obj (c : Str) (ks : List Str) (ds : List D)
  | dk (ks : List Key) (ds : List D) | dt (ks : List (List Key)) (ds : List D)
  | exn (a : Addr) (dx : Option Addr) (ks : List Str) (ds : List D) | fn (c : Clo) (cs : List D)
  deriving Inhabited

inductive Cell where
  | lst (ds : List D) | obj (c : Str) (ks : List Str) (ds : List D) | dk (ks : List Key) (ds : List D) | dt (ks : List (List Key)) (ds : List D) | tab (p : Str × Option Str) (nm : Nat → Nat → Str)
  deriving Inhabited

abbrev Store := List Cell
abbrev Env' := List (Option D)

/-- a new thing's cell -/
def D.cell? : D → Option Cell
  | .lst ds => some (.lst ds) | .obj c ks ds => some (.obj c ks ds) | .dk ks ds => some (.dk ks ds) | .dt ks ds => some (.dt ks ds) | _ => none
def Cell.d : Cell → D
  | .lst ds => .lst ds | .obj c ks ds => .obj c ks ds | .dk ks ds => .dk ks ds | .dt ks ds => .dt ks ds | .tab _ _ => .non
/-- no table of code objects -/
def Cell.pln : Cell → Bool
  | .tab _ _ => false
  | _ => true
def Cell.items : Cell → List D
  | .lst ds => ds | .obj _ _ ds => ds | .dk _ ds => ds | .dt _ ds => ds | .tab _ _ => []

mutual
def D.lo (n : Nat) : D → Bool
  | .tup ds => loL n ds
  | .ptup ds => loL n ds
  | .ref k => decide (k < n)
  | .fro ds => loL n ds
  | .lst ds => loL n ds
  | .obj _ _ ds => loL n ds
  | .dk _ ds => loL n ds
  | .dt _ ds => loL n ds
  | .exn _ _ _ ds => loL n ds
  | .fn _ ds => loL n ds
  | .non => true | .bl _ => true | .int _ => true | .str _ => true
def loL (n : Nat) : List D → Bool
  | [] => true
  | d :: ds => d.lo n && loL n ds
end
def Cell.lo (n : Nat) (c : Cell) : Bool := match c with
  | .tab _ _ => false
  | c => loL n c.items
theorem Cell.lo_pln {n : Nat} {c : Cell} (h : c.lo n = true) : c.pln = true ∧ loL n c.items = true := by
  cases c <;> first | exact ⟨rfl, h⟩ | cases h

/-- a list that nobody writes -/
def SqF (K : PySem.W.Frag) (H : Hp) (a : Addr) (xs : List V) : Prop :=
  (∃ o, H a = some (.frz o (.lst xs))) ∨
    ∃ (o : Obj) (its : Array Value) (n : Nat), K.lookup a = some o ∧ o.cls = .type "list" ∧ o.dict = none ∧ o.data = .seq its n ∧ its.size ≤ sizeLine ∧ Vals xs its.toList
theorem SqF.seq {K : PySem.W.Frag} {H : Hp} {a : Addr} {xs : List V} (h : SqF K H a xs) : SqL K H a xs := by
  rcases h with h | h
  · exact .inl (.inr h)
  · exact .inr h
/-- a tuple that is known to be plain (no dict of its own) -/
def SqP (H : Hp) (a : Addr) (xs : List V) : Prop := ∃ o, H a = some (.frz o (.tup xs)) ∧ o.dict = none
theorem SqP.t {K : PySem.W.Frag} {H : Hp} {a : Addr} {xs : List V} (h : SqP H a xs) : SqT K H a xs := by
  obtain ⟨o, h, _⟩ := h
  exact .inl (.inr ⟨o, h⟩)
mutual
def Rep (K : PySem.W.Frag) (μ : List Addr) (H : Hp) : D → V → Prop
  | .non, v => v = .non
  | .bl b, v => v = .bl b
  | .int i, v => v = .int i
  | .str x, v => v = .str x
  | .tup ds, v => ∃ a vs, v = .ref a ∧ SqT K H a vs ∧ RepL K μ H ds vs
  | .ptup ds, v => ∃ a vs, v = .ref a ∧ SqP H a vs ∧ RepL K μ H ds vs
  | .ref n, v => ∃ a, μ[n]? = some a ∧ v = .ref a
  | .fro ds, v => ∃ a vs, v = .ref a ∧ SqF K H a vs ∧ RepL K μ H ds vs
  | .lst _, _ => False
  | .obj _ _ _, _ => False
  | .dk _ _, _ => False
  | .dt _ _, _ => False
  | .exn a dx ks ds, v => v = .ref a ∧ (dx = none → ds = []) ∧ ∀ x, dx = some x → ∃ vs, H x = some (.xd (ks.zip vs)) ∧ ks.length = ds.length ∧ RepL K μ H ds vs
  | .fn c ds, v => v = .ref c.a ∧ H c.a = some (hoOf c.a c.F c.lam) ∧ H c.F.c = some (LamX.CodeO c.F.c c.F.qual) ∧ RepL K μ H ds c.ws
def RepL (K : PySem.W.Frag) (μ : List Addr) (H : Hp) : List D → List V → Prop
  | [], vs => vs = []
  | d :: ds, vs => ∃ v r, vs = v :: r ∧ Rep K μ H d v ∧ RepL K μ H ds r
end

variable {K : PySem.W.Frag} {mg : Str → Option Value} {μ ext : List Addr} {H H' H1 H2 : Hp}

theorem RepL.length : ∀ {ds : List D} {vs : List V}, RepL K μ H ds vs → ds.length = vs.length
  | [], _, h => by unfold RepL at h; subst h; rfl
  | d :: ds, _, h => by
    unfold RepL at h
    obtain ⟨v, r, rfl, _, h⟩ := h
    simp [RepL.length h]
theorem RepL.nil : RepL K μ H [] [] := by unfold RepL; rfl
theorem RepL.cons {d : D} {ds : List D} {v : V} {vs : List V} (h1 : Rep K μ H d v) (h2 : RepL K μ H ds vs) : RepL K μ H (d :: ds) (v :: vs) := by
  unfold RepL; exact ⟨v, vs, rfl, h1, h2⟩
theorem RepL.nil_iff {vs : List V} : RepL K μ H [] vs ↔ vs = [] := by unfold RepL; exact Iff.rfl
theorem RepL.cons_iff {d : D} {ds : List D} {vs : List V} : RepL K μ H (d :: ds) vs ↔ ∃ v r, vs = v :: r ∧ Rep K μ H d v ∧ RepL K μ H ds r := by
  constructor
  · intro h; unfold RepL at h; exact h
  · intro h; unfold RepL; exact h
theorem RepL.append {ds es : List D} : ∀ {vs us : List V}, RepL K μ H ds vs → RepL K μ H es us → RepL K μ H (ds ++ es) (vs ++ us) := by
  induction ds with
  | nil => intro vs us h1 h2; rw [RepL.nil_iff] at h1; subst h1; exact h2
  | cons d ds ih =>
    intro vs us h1 h2
    obtain ⟨v, r, rfl, hv, hr⟩ := RepL.cons_iff.mp h1
    exact RepL.cons hv (ih hr h2)
theorem RepL.get {ds : List D} : ∀ {vs : List V} {i : Nat} {d : D}, RepL K μ H ds vs → ds[i]? = some d → ∃ v, vs[i]? = some v ∧ Rep K μ H d v := by
  induction ds with
  | nil => intro vs i d _ h; simp at h
  | cons e ds ih =>
    intro vs i d h1 h2
    obtain ⟨v, r, rfl, hv, hr⟩ := RepL.cons_iff.mp h1
    cases i with
    | zero => simp at h2; subst h2; exact ⟨v, rfl, hv⟩
    | succ i => simpa using ih hr (by simpa using h2)
theorem RepL.of_get {ds : List D} : ∀ {vs : List V}, ds.length = vs.length → (∀ (i : Nat) d v, ds[i]? = some d → vs[i]? = some v → Rep K μ H d v) → RepL K μ H ds vs := by
  induction ds with
  | nil => intro vs h _; rw [RepL.nil_iff]; exact List.length_eq_zero_iff.mp h.symm
  | cons e ds ih =>
    intro vs h1 h2
    cases vs with
    | nil => simp at h1
    | cons v r =>
      refine RepL.cons (h2 0 e v rfl rfl) (ih (by simpa using h1) fun i d v' a b => h2 (i + 1) d v' (by simpa using a) (by simpa using b))
theorem RepL.take {ds : List D} {vs : List V} (n : Nat) (h : RepL K μ H ds vs) : RepL K μ H (ds.take n) (vs.take n) := by
  refine RepL.of_get (by simp [h.length]) fun i d v a b => ?_
  rw [List.getElem?_take] at a b
  split at a
  · rename_i hi; rw [if_pos hi] at b; obtain ⟨w, e, r⟩ := h.get a; rw [b] at e; cases e; exact r
  · cases a
theorem RepL.drop {ds : List D} {vs : List V} (n : Nat) (h : RepL K μ H ds vs) : RepL K μ H (ds.drop n) (vs.drop n) := by
  refine RepL.of_get (by simp [h.length]) fun i d v a b => ?_
  rw [List.getElem?_drop] at a b
  obtain ⟨w, e, r⟩ := h.get a; rw [b] at e; cases e; exact r
theorem RepL.set {ds : List D} {vs : List V} {d : D} {v : V} (n : Nat) (h : RepL K μ H ds vs) (h1 : Rep K μ H d v) : RepL K μ H (ds.set n d) (vs.set n v) := by
  refine RepL.of_get (by simp [h.length]) fun i e w a b => ?_
  rw [List.getElem?_set] at a b
  split at a
  · rename_i hi; rw [if_pos hi] at b
    split at a
    · split at b
      · cases a; cases b; exact h1
      · cases b
    · cases a
  · rename_i hi; rw [if_neg hi] at b; obtain ⟨w', e', r⟩ := h.get a; rw [b] at e'; cases e'; exact r
theorem RepL.eraseIdx {ds : List D} {vs : List V} (n : Nat) (h : RepL K μ H ds vs) : RepL K μ H (ds.eraseIdx n) (vs.eraseIdx n) := by
  rw [List.eraseIdx_eq_take_drop_succ, List.eraseIdx_eq_take_drop_succ]
  exact (h.take n).append (h.drop (n + 1))
theorem RepL.reverse {ds : List D} : ∀ {vs : List V}, RepL K μ H ds vs → RepL K μ H ds.reverse vs.reverse := by
  induction ds with
  | nil => intro vs h; rw [RepL.nil_iff] at h; subst h; exact RepL.nil
  | cons d ds ih =>
    intro vs h
    obtain ⟨v, r, rfl, hv, hr⟩ := RepL.cons_iff.mp h
    rw [List.reverse_cons, List.reverse_cons]
    exact (ih hr).append (RepL.cons hv RepL.nil)

/-- what may be written stands there -/
def Wr (H : Hp) (a : Addr) : Prop := (∃ vs, H a = some (.lst vs)) ∨ (∃ C dx fs, H a = some (.ins C dx fs)) ∨ (∃ k, H a = some (.dK k)) ∨ (∃ k, H a = some (.dT k)) ∨ (∃ k, H a = some (.tbl k))
/-- all but the cells is kept -/
def Keep (μ : List Addr) (H H' : Hp) : Prop := ∀ a o, H a = some o → a ∉ μ → H' a ≠ none ∧ ((∀ ps, o ≠ .tbl ps) → H' a = some o)
theorem Keep.refl : Keep μ H H := fun _ _ h _ => ⟨fun z => absurd (h.symm.trans z) (fun z => nomatch z), fun _ => h⟩
/-- all that is no cell is kept -/
theorem Keep.of (h : ∀ a o, H a = some o → a ∉ μ → H' a = some o) : Keep μ H H' := fun a o e n => ⟨fun z => absurd ((h a o e n).symm.trans z) (fun z => nomatch z), fun _ => h a o e n⟩
theorem Keep.at_ (k : Keep μ H H') (a : Addr) (o : HO) (h : H a = some o) (n : a ∉ μ) (t : ∀ ps, o ≠ .tbl ps) : H' a = some o := (k a o h n).2 t

theorem sqT_keep {a : Addr} {vs : List V} (hw : ∀ a ∈ μ, Wr H a) (k : Keep μ H H') (h : SqT K H a vs) : SqT K H' a vs := by
  rcases h with (h | ⟨o, h⟩) | h
  · refine .inl (.inl (k.at_ _ _ h (fun hm => ?_) fun _ z => nomatch z))
    rcases hw _ hm with ⟨_, e⟩ | ⟨_, _, _, e⟩ | ⟨_, e⟩ | ⟨_, e⟩ | ⟨_, e⟩ <;> rw [h] at e <;> cases e
  · refine .inl (.inr ⟨o, k.at_ _ _ h (fun hm => ?_) fun _ z => nomatch z⟩)
    rcases hw _ hm with ⟨_, e⟩ | ⟨_, _, _, e⟩ | ⟨_, e⟩ | ⟨_, e⟩ | ⟨_, e⟩ <;> rw [h] at e <;> cases e
  · exact .inr h

theorem sqP_keep {a : Addr} {vs : List V} (hw : ∀ a ∈ μ, Wr H a) (k : Keep μ H H') (h : SqP H a vs) : SqP H' a vs := by
  obtain ⟨o, h, hd⟩ := h
  refine ⟨o, k.at_ _ _ h (fun hm => ?_) (fun _ z => nomatch z), hd⟩
  rcases hw _ hm with ⟨_, e⟩ | ⟨_, _, _, e⟩ | ⟨_, e⟩ | ⟨_, e⟩ | ⟨_, e⟩ <;> rw [h] at e <;> cases e

theorem sqF_keep {a : Addr} {vs : List V} (hw : ∀ a ∈ μ, Wr H a) (k : Keep μ H H') (h : SqF K H a vs) : SqF K H' a vs := by
  rcases h with ⟨o, h⟩ | h
  · refine .inl ⟨o, k.at_ _ _ h (fun hm => ?_) fun _ z => nomatch z⟩
    rcases hw _ hm with ⟨_, e⟩ | ⟨_, _, _, e⟩ | ⟨_, e⟩ | ⟨_, e⟩ | ⟨_, e⟩ <;> rw [h] at e <;> cases e
  · exact .inr h

mutual
theorem Rep.mono (hw : ∀ a ∈ μ, Wr H a) (k : Keep μ H H') : ∀ {d : D} {v : V}, Rep K μ H d v → Rep K (μ ++ ext) H' d v
  | .non, _, h => by unfold Rep at h ⊢; exact h
  | .bl _, _, h => by unfold Rep at h ⊢; exact h
  | .int _, _, h => by unfold Rep at h ⊢; exact h
  | .str _, _, h => by unfold Rep at h ⊢; exact h
  | .tup ds, _, h => by
    unfold Rep at h ⊢
    obtain ⟨a, vs, e, h1, h2⟩ := h
    exact ⟨a, vs, e, sqT_keep hw k h1, RepL.mono hw k h2⟩
  | .ptup ds, _, h => by
    unfold Rep at h ⊢
    obtain ⟨a, vs, e, h1, h2⟩ := h
    exact ⟨a, vs, e, sqP_keep hw k h1, RepL.mono hw k h2⟩
  | .ref n, _, h => by
    unfold Rep at h ⊢
    obtain ⟨a, e, h1⟩ := h
    exact ⟨a, by rw [List.getElem?_append_left (List.getElem?_eq_some_iff.mp e).1]; exact e, h1⟩
  | .fro ds, _, h => by
    unfold Rep at h ⊢
    obtain ⟨a, vs, e, h1, h2⟩ := h
    exact ⟨a, vs, e, sqF_keep hw k h1, RepL.mono hw k h2⟩
  | .lst _, _, h => by unfold Rep at h; exact h.elim
  | .obj _ _ _, _, h => by unfold Rep at h; exact h.elim
  | .dk _ _, _, h => by unfold Rep at h; exact h.elim
  | .dt _ _, _, h => by unfold Rep at h; exact h.elim
  | .exn a dx ks ds, _, h => by
    unfold Rep at h ⊢
    obtain ⟨e, e0, h⟩ := h
    refine ⟨e, e0, fun x hx => ?_⟩
    obtain ⟨vs, h1, h2, h3⟩ := h x hx
    refine ⟨vs, k.at_ x _ h1 (fun hm => ?_) (fun _ z => nomatch z), h2, RepL.mono hw k h3⟩
    rcases hw x hm with ⟨_, e⟩ | ⟨_, _, _, e⟩ | ⟨_, e⟩ | ⟨_, e⟩ | ⟨_, e⟩ <;> rw [h1] at e <;> cases e
  | .fn c ds, _, h => by
    unfold Rep at h ⊢
    obtain ⟨e, h1, h2, h3⟩ := h
    refine ⟨e, k.at_ _ _ h1 (fun hm => ?_) hoOf_ne, k.at_ _ _ h2 (fun hm => ?_) LamX.codeO_ne, RepL.mono hw k h3⟩
    · obtain ⟨φ, e0⟩ := hoOf_ext (f := c.a) (F := c.F) (l := c.lam)
      rw [e0] at h1
      rcases hw _ hm with ⟨_, e⟩ | ⟨_, _, _, e⟩ | ⟨_, e⟩ | ⟨_, e⟩ | ⟨_, e⟩ <;> rw [h1] at e <;> cases e
    · unfold LamX.CodeO at h2
      rcases hw _ hm with ⟨_, e⟩ | ⟨_, _, _, e⟩ | ⟨_, e⟩ | ⟨_, e⟩ | ⟨_, e⟩ <;> rw [h2] at e <;> cases e
theorem RepL.mono (hw : ∀ a ∈ μ, Wr H a) (k : Keep μ H H') : ∀ {ds : List D} {vs : List V}, RepL K μ H ds vs → RepL K (μ ++ ext) H' ds vs
  | [], _, h => by rw [RepL.nil_iff] at h ⊢; exact h
  | d :: ds, _, h => by
    rw [RepL.cons_iff] at h ⊢
    obtain ⟨v, r, e, h1, h2⟩ := h
    exact ⟨v, r, e, Rep.mono hw k h1, RepL.mono hw k h2⟩
end

/-! ### cells -/
def Cell.ho (c : Cell) (C dx : Addr) (vs : List V) : HO := match c with
  | .lst _ => .lst vs
  | .obj _ ks _ => .ins C dx (ks.zip vs)
  | .dk ks _ => .dK (ks.zip vs)
  | .dt ks _ => .dT (ks.zip vs)
  | .tab _ _ => .lst vs
def Cell.cls (mg : Str → Option Value) (C : Addr) : Cell → Prop
  | .obj c _ _ => mg c = some (.ref C)
  | _ => True
def Cell.wf : Cell → Prop
  | .lst _ => True
  | .obj _ ks ds => ks.length = ds.length
  | .dk ks ds => ks.length = ds.length
  | .dt ks ds => ks.length = ds.length
  | .tab _ _ => True
def CellOk (K : PySem.W.Frag) (mg : Str → Option Value) (μ : List Addr) (H : Hp) (a : Addr) (c : Cell) : Prop := match c with
  | .tab p nm => a = (He.cT K p).2 ∧ NdefX.TabN H a nm
  | c => ∃ C dx vs, c.cls mg C ∧ H a = some (c.ho C dx vs) ∧ c.wf ∧ RepL K μ H c.items vs
theorem cellOk_iff {a : Addr} {c : Cell} (hc : c.pln = true) : CellOk K mg μ H a c ↔ ∃ C dx vs, c.cls mg C ∧ H a = some (c.ho C dx vs) ∧ c.wf ∧ RepL K μ H c.items vs := by
  cases c <;> first | exact Iff.rfl | cases hc
theorem cellOk_tab {a : Addr} {p : Str × Option Str} {nm : Nat → Nat → Str} : CellOk K mg μ H a (.tab p nm) ↔ a = (He.cT K p).2 ∧ NdefX.TabN H a nm := Iff.rfl
theorem Cell.pln_or (c : Cell) : c.pln = true ∨ ∃ P nm, c = .tab P nm := by
  cases c <;> first | exact .inl rfl | exact .inr ⟨_, _, rfl⟩
theorem tabN_keep {P : Addr} {nm : Nat → Nat → Str} (t : NdefX.TabN H P nm) (hP : H' P = H P) (k : ∀ c q, H c = some (LamX.CodeO c q) → H' c = some (LamX.CodeO c q)) : NdefX.TabN H' P nm := by
  obtain ⟨ps, h1, h2, h3⟩ := t
  refine ⟨ps, hP.trans h1, h2, fun pos cv hc => ?_⟩
  obtain ⟨c, e, h⟩ := h3 pos cv hc
  exact ⟨c, e, k _ _ h⟩
theorem Cell.ho_wr {c : Cell} {C dx : Addr} {vs : List V} {a : Addr} (h : H a = some (c.ho C dx vs)) : Wr H a := by
  cases c with
  | lst _ => exact .inl ⟨_, h⟩
  | obj _ _ _ => exact .inr (.inl ⟨_, _, _, h⟩)
  | dk _ _ => exact .inr (.inr (.inl ⟨_, h⟩))
  | dt _ _ => exact .inr (.inr (.inr (.inl ⟨_, h⟩)))
  | tab _ _ => exact .inl ⟨_, h⟩
theorem CellOk.wr {a : Addr} {c : Cell} (h : CellOk K mg μ H a c) : Wr H a := by
  rcases c.pln_or with hc | ⟨P, nm, rfl⟩
  · obtain ⟨C, dx, vs, _, e, _⟩ := (cellOk_iff hc).mp h
    exact Cell.ho_wr e
  · obtain ⟨_, ps, e, _⟩ := cellOk_tab.mp h
    exact .inr (.inr (.inr (.inr ⟨_, e⟩)))
theorem Wr.ne_none {a : Addr} (h : Wr H a) : H a ≠ none := by
  rcases h with ⟨_, e⟩ | ⟨_, _, _, e⟩ | ⟨_, e⟩ | ⟨_, e⟩ | ⟨_, e⟩ <;> rw [e] <;> exact fun z => nomatch z

structure Rel (K : PySem.W.Frag) (mg : Str → Option Value) (μ : List Addr) (S : Store) (H : Hp) : Prop where
  nd : μ.Nodup
  len : μ.length = S.length
  cell : ∀ (n : Nat) a c, μ[n]? = some a → S[n]? = some c → CellOk K mg μ H a c
variable {S S' S1 S2 : Store} {μ' μ1 μ2 : List Addr}
theorem Rel.wr (R : Rel K mg μ S H) : ∀ a ∈ μ, Wr H a := fun a ha => by
  obtain ⟨n, hn, e⟩ := List.mem_iff_getElem.mp ha
  have e1 : μ[n]? = some a := by rw [List.getElem?_eq_getElem hn, e]
  have hs : n < S.length := by rw [← R.len]; exact hn
  have e2 : S[n]? = some S[n] := List.getElem?_eq_getElem hs
  exact (R.cell n a _ e1 e2).wr
theorem Rel.get (R : Rel K mg μ S H) {n : Nat} {c : Cell} (h : S[n]? = some c) : ∃ a, μ[n]? = some a ∧ CellOk K mg μ H a c := by
  have hn : n < μ.length := by rw [R.len]; exact (List.getElem?_eq_some_iff.mp h).1
  exact ⟨μ[n], List.getElem?_eq_getElem hn, R.cell n _ c (List.getElem?_eq_getElem hn) h⟩
theorem Rel.nil : Rel K mg [] [] H := ⟨List.nodup_nil, rfl, fun n a c h => by simp at h⟩

/-- what running does: more cells, the rest is kept -/
def Step (K : PySem.W.Frag) (mg : Str → Option Value) (μ : List Addr) (H : Hp) (μ' : List Addr) (S' : Store) (H' : Hp) : Prop :=
  ∃ ext, μ' = μ ++ ext ∧ Rel K mg μ' S' H' ∧ Keep μ H H' ∧ ∀ a ∈ ext, H a = none
theorem Step.refl (R : Rel K mg μ S H) : Step K mg μ H μ S H := ⟨[], by simp, R, Keep.refl, fun _ h => nomatch h⟩
theorem Step.rel (st : Step K mg μ H μ' S' H') : Rel K mg μ' S' H' := let ⟨_, _, r, _⟩ := st; r
/-- what was new behind is new ahead -/
theorem Step.back (R : Rel K mg μ S H) (st : Step K mg μ H μ' S' H') {a : Addr} (h : H' a = none) : H a = none := by
  obtain ⟨ext, e, R', k, _⟩ := st
  cases q : H a with
  | none => rfl
  | some o =>
    by_cases hm : a ∈ μ
    · have : a ∈ μ' := by rw [e]; exact List.mem_append_left _ hm
      exact absurd h (R'.wr a this).ne_none
    · exact absurd h (k a o q hm).1
theorem Step.trans (R : Rel K mg μ S H) (s1 : Step K mg μ H μ1 S1 H1) (s2 : Step K mg μ1 H1 μ2 S2 H2) : Step K mg μ H μ2 S2 H2 := by
  have bk := fun {a} (h : H1 a = none) => s1.back R h
  obtain ⟨e1, q1, R1, k1, f1⟩ := s1
  obtain ⟨e2, q2, R2, k2, f2⟩ := s2
  subst q1
  refine ⟨e1 ++ e2, by rw [q2, List.append_assoc], R2, fun a o h hm => ?_, fun a ha => ?_⟩
  · have nm : a ∉ μ ++ e1 := fun hm1 => by
      rcases List.mem_append.mp hm1 with z | z
      · exact hm z
      · rw [f1 a z] at h; cases h
    obtain ⟨n1, t1⟩ := k1 a o h hm
    cases q : H1 a with
    | none => exact absurd q n1
    | some o1 => exact ⟨(k2 a o1 q nm).1, fun nt => (k2 a o (t1 nt) nm).2 nt⟩
  · rcases List.mem_append.mp ha with z | z
    · exact f1 a z
    · exact bk (f2 a z)
theorem Step.rep (R : Rel K mg μ S H) (st : Step K mg μ H μ' S' H') {d : D} {v : V} (h : Rep K μ H d v) : Rep K μ' H' d v := by
  obtain ⟨ext, e, _, k, _⟩ := st
  subst e
  exact h.mono R.wr k
theorem Step.repL (R : Rel K mg μ S H) (st : Step K mg μ H μ' S' H') {d : List D} {v : List V} (h : RepL K μ H d v) : RepL K μ' H' d v := by
  obtain ⟨ext, e, _, k, _⟩ := st
  subst e
  exact h.mono R.wr k
theorem Step.nin (st : Step K mg μ H μ' S' H') {a : Addr} {o : HO} (h : H a = some o) (hm : a ∉ μ) (nt : ∀ ps, o ≠ .tbl ps := by exact fun _ z => nomatch z) : a ∉ μ' ∧ H' a = some o := by
  obtain ⟨ext, e, _, k, f⟩ := st
  refine ⟨fun hm' => ?_, k.at_ a o h hm nt⟩
  rw [e] at hm'
  rcases List.mem_append.mp hm' with z | z
  · exact hm z
  · rw [f a z] at h; cases h

/-- a result: plain, or a new thing that nobody holds -/
def ResOk (K : PySem.W.Frag) (mg : Str → Option Value) (μ : List Addr) (H0 H : Hp) (d : D) (v : V) : Prop := match d.cell? with
  | some c => ∃ a, v = .ref a ∧ CellOk K mg μ H a c ∧ a ∉ μ ∧ H0 a = none
  | none => Rep K μ H d v
theorem ResOk.plain {H0 : Hp} {d : D} {v : V} (h : Rep K μ H d v) : ResOk K mg μ H0 H d v := by
  unfold ResOk
  cases d <;> first | exact h | (unfold Rep at h; exact h.elim)
theorem ResOk.new {H0 : Hp} {d : D} {c : Cell} {a : Addr} (e : d.cell? = some c) (h : CellOk K mg μ H a c) (h1 : a ∉ μ) (h2 : H0 a = none) : ResOk K mg μ H0 H d (.ref a) := by
  unfold ResOk
  rw [e]
  exact ⟨a, rfl, h, h1, h2⟩
theorem ResOk.rep {H0 : Hp} {d : D} {v : V} (h : ResOk K mg μ H0 H d v) (e : d.cell? = none) : Rep K μ H d v := by
  unfold ResOk at h
  rw [e] at h
  exact h
theorem cell_pln {d : D} {c : Cell} (h : d.cell? = some c) : c.pln = true := by
  cases d <;> first | (cases h; rfl) | cases h
theorem Cell.ho_nt {c : Cell} {C dx : Addr} {vs : List V} (ps : Array Value) : c.ho C dx vs ≠ .tbl ps := by
  cases c <;> exact fun z => nomatch z
theorem CellOk.step {a : Addr} {c : Cell} (R : Rel K mg μ S H) (st : Step K mg μ H μ' S' H') (h : CellOk K mg μ H a c) (hm : a ∉ μ) (hc : c.pln = true := by rfl) : CellOk K mg μ' H' a c ∧ a ∉ μ' := by
  obtain ⟨C, dx, vs, h1, h2, h3, h4⟩ := (cellOk_iff hc).mp h
  obtain ⟨n1, n2⟩ := st.nin h2 hm Cell.ho_nt
  exact ⟨(cellOk_iff hc).mpr ⟨C, dx, vs, h1, n2, h3, st.repL R h4⟩, n1⟩
theorem ResOk.step {H0 : Hp} {d : D} {v : V} (R : Rel K mg μ S H) (st : Step K mg μ H μ' S' H') (h : ResOk K mg μ H0 H d v) : ResOk K mg μ' H0 H' d v := by
  unfold ResOk at h ⊢
  cases e : d.cell? with
  | none => rw [e] at h; exact st.rep R h
  | some c =>
    rw [e] at h
    obtain ⟨a, rfl, h1, h2, h3⟩ := h
    obtain ⟨q1, q2⟩ := h1.step R st h2 (cell_pln e)
    exact ⟨a, rfl, q1, q2, h3⟩
/-- seen from further ahead -/
theorem ResOk.back {d : D} {v : V} {S0 : Store} {μ0 : List Addr} {H0 : Hp} (R : Rel K mg μ0 S0 H0) (st : Step K mg μ0 H0 μ1 S1 H1) (h : ResOk K mg μ H1 H d v) : ResOk K mg μ H0 H d v := by
  unfold ResOk at h ⊢
  cases e : d.cell? with
  | none => rw [e] at h; exact h
  | some c =>
    rw [e] at h
    obtain ⟨a, rfl, h1, h2, h3⟩ := h
    exact ⟨a, rfl, h1, h2, st.back R h3⟩

/-- a new thing is held -/
def box (d : D) (S : Store) : D × Store := match d.cell? with
  | some c => (.ref S.length, S ++ [c])
  | none => (d, S)
theorem CellOk.more {a : Addr} {c : Cell} (hw : ∀ a ∈ μ, Wr H a) (h : CellOk K mg μ H a c) : CellOk K mg (μ ++ ext) H a c := by
  rcases c.pln_or with hc | ⟨P, nm, rfl⟩
  · obtain ⟨C, dx, vs, h1, h2, h3, h4⟩ := (cellOk_iff hc).mp h
    exact (cellOk_iff hc).mpr ⟨C, dx, vs, h1, h2, h3, h4.mono hw Keep.refl⟩
  · exact h
theorem Rel.more {a : Addr} {c : Cell} (R : Rel K mg μ S H) (h : CellOk K mg μ H a c) (hm : a ∉ μ) : Rel K mg (μ ++ [a]) (S ++ [c]) H := by
  refine ⟨?_, by simp [R.len], fun n b k h1 h2 => ?_⟩
  · rw [List.nodup_append]
    exact ⟨R.nd, by simp, fun x hx y hy => by simp at hy; subst hy; exact fun e => hm (e ▸ hx)⟩
  · by_cases hn : n < μ.length
    · rw [List.getElem?_append_left hn] at h1
      rw [List.getElem?_append_left (by rw [← R.len]; exact hn)] at h2
      exact (R.cell n b k h1 h2).more R.wr
    · have hl := R.len
      rw [List.getElem?_append_right (by omega)] at h1 h2
      have : n - μ.length = 0 := by
        have := (List.getElem?_eq_some_iff.mp h1).1
        simpa using this
      rw [this] at h1
      rw [show n - S.length = 0 by omega] at h2
      simp at h1 h2
      subst h1 h2
      exact h.more R.wr
theorem Step.box {d : D} {v : V} {H0 : Hp} {μ0 : List Addr} (st : Step K mg μ0 H0 μ S H) (h : ResOk K mg μ H0 H d v) :
    ∃ μ', Step K mg μ0 H0 μ' (Ev.box d S).2 H ∧ Rep K μ' H (Ev.box d S).1 v ∧ ∃ ext, μ' = μ ++ ext := by
  unfold ResOk at h
  unfold Ev.box
  cases e : d.cell? with
  | none => rw [e] at h; exact ⟨μ, st, h, [], by simp⟩
  | some c =>
    rw [e] at h
    obtain ⟨a, rfl, h1, h2, h3⟩ := h
    obtain ⟨ext, q, R, k, f⟩ := st
    refine ⟨μ ++ [a], ⟨ext ++ [a], by rw [q, List.append_assoc], R.more h1 h2, k, fun b hb => ?_⟩, ?_, [a], rfl⟩
    · rcases List.mem_append.mp hb with z | z
      · exact f b z
      · simp at z; subst z; exact h3
    · unfold Rep
      exact ⟨a, by rw [← R.len]; simp, rfl⟩

/-! ### slots -/
structure EnvOk (K : PySem.W.Frag) (μ : List Addr) (H : Hp) (ρ : Env') (σ : L2.St) : Prop where
  len : ρ.length = σ.length
  at_ : ∀ (i : Nat) d, ρ[i]? = some (some d) → ∃ v, σ[i]? = some (some v) ∧ Rep K μ H d v
theorem EnvOk.step {ρ : Env'} {σ : L2.St} (R : Rel K mg μ S H) (st : Step K mg μ H μ' S' H') (h : EnvOk K μ H ρ σ) : EnvOk K μ' H' ρ σ :=
  ⟨h.len, fun i d e => let ⟨v, e1, r⟩ := h.at_ i d e; ⟨v, e1, st.rep R r⟩⟩
theorem EnvOk.more {ρ : Env'} {σ : L2.St} (R : Rel K mg μ S H) (h : EnvOk K μ H ρ σ) : EnvOk K (μ ++ ext) H ρ σ :=
  ⟨h.len, fun i d e => let ⟨v, e1, r⟩ := h.at_ i d e; ⟨v, e1, r.mono R.wr Keep.refl⟩⟩
theorem EnvOk.set {ρ : Env'} {σ : L2.St} {d : D} {v : V} (i : Nat) (h : EnvOk K μ H ρ σ) (r : Rep K μ H d v) : EnvOk K μ H (ρ.set i (some d)) (σ.set i (some v)) := by
  refine ⟨by simp [h.len], fun j e q => ?_⟩
  rw [List.getElem?_set] at q ⊢
  split at q
  · rename_i hi
    rw [if_pos hi]
    split at q
    · rename_i hl
      rw [if_pos (by rw [← h.len]; exact hl)]
      cases q
      exact ⟨v, rfl, r⟩
    · cases q
  · rename_i hi
    rw [if_neg hi]
    exact h.at_ j e q
/-! ### new objects, changed cells -/
theorem keep_fresh {p : Addr} {o : HO} (h : H p = none) : Keep μ H (upd H p o) := .of fun a u e _ => by
  rw [upd_ne (ne_of_none e h)]; exact e
theorem Rep.keep {d : D} {v : V} (R : Rel K mg μ S H) (k : Keep μ H H') (h : Rep K μ H d v) : Rep K μ H' d v := by
  have := h.mono (ext := []) R.wr k
  rwa [List.append_nil] at this
theorem RepL.keep {d : List D} {v : List V} (R : Rel K mg μ S H) (k : Keep μ H H') (h : RepL K μ H d v) : RepL K μ H' d v := by
  have := h.mono (ext := []) R.wr k
  rwa [List.append_nil] at this
theorem Rel.fresh {p : Addr} {o : HO} (R : Rel K mg μ S H) (h : H p = none) : Rel K mg μ S (upd H p o) := by
  refine ⟨R.nd, R.len, fun n a c h1 h2 => ?_⟩
  have cc := R.cell n a c h1 h2
  rcases c.pln_or with hc | ⟨P, nm, rfl⟩
  · obtain ⟨C, dx, vs, q1, q2, q3, q4⟩ := (cellOk_iff hc).mp cc
    exact (cellOk_iff hc).mpr ⟨C, dx, vs, q1, by rw [upd_ne (ne_of_none q2 h)]; exact q2, q3, q4.keep R (keep_fresh h)⟩
  · obtain ⟨ea, t⟩ := cellOk_tab.mp cc
    exact cellOk_tab.mpr ⟨ea, t.ext fun b o e => by rw [upd_ne (ne_of_none e h)]; exact e⟩
theorem Step.fresh {p : Addr} {o : HO} (R : Rel K mg μ S H) (h : H p = none) : Step K mg μ H μ S (upd H p o) :=
  ⟨[], by simp, R.fresh h, keep_fresh h, fun _ z => nomatch z⟩
theorem Rel.nin (R : Rel K mg μ S H) {p : Addr} (h : H p = none) : p ∉ μ := fun hm => (R.wr p hm).ne_none h
/-- a new list -/
theorem new_lst {ds : List D} {vs : List V} {p : Addr} (R : Rel K mg μ S H) (h : H p = none) (r : RepL K μ H ds vs) : ResOk K mg μ H (upd H p (.lst vs)) (.lst ds) (.ref p) :=
  ResOk.new (c := .lst ds) rfl ⟨0, 0, vs, trivial, upd_same, trivial, r.keep R (keep_fresh h)⟩ (R.nin h) h
theorem new_tup {ds : List D} {vs : List V} {p : Addr} (R : Rel K mg μ S H) (h : H p = none) (r : RepL K μ H ds vs) : ResOk K mg μ H (upd H p (.tup vs)) (.tup ds) (.ref p) :=
  ResOk.plain (by unfold Rep; exact ⟨p, vs, rfl, SqT.of upd_same, r.keep R (keep_fresh h)⟩)
/-- a cell is changed -/
theorem keep_write {a : Addr} {o : HO} (hm : a ∈ μ) : Keep μ H (upd H a o) := .of fun b u e hb => by
  rw [upd_ne (fun z => hb (by rw [z]; exact hm))]; exact e
theorem Rel.write {n : Nat} {a C dx : Addr} {c : Cell} {vs : List V} (R : Rel K mg μ S H) (hn : μ[n]? = some a) (h1 : c.cls mg C) (h2 : c.wf) (h3 : RepL K μ H c.items vs) (hpl : c.pln = true := by rfl) : Rel K mg μ (S.set n c) (upd H a (c.ho C dx vs)) := by
  have hm : a ∈ μ := List.mem_of_getElem? hn
  refine ⟨R.nd, by simp [R.len], fun m b k e1 e2 => ?_⟩
  rw [List.getElem?_set] at e2
  by_cases hmn : n = m
  · subst hmn
    rw [hn] at e1; cases e1
    rw [if_pos rfl] at e2
    split at e2
    · cases e2
      exact (cellOk_iff hpl).mpr ⟨C, dx, vs, h1, upd_same, h2, h3.keep R (keep_write hm)⟩
    · cases e2
  · rw [if_neg hmn] at e2
    have hab : b ≠ a := fun z => by
      subst z
      obtain ⟨l1, q1⟩ := List.getElem?_eq_some_iff.mp hn
      obtain ⟨l2, q2⟩ := List.getElem?_eq_some_iff.mp e1
      exact hmn ((List.getElem_inj R.nd).mp (q1.trans q2.symm))
    have cc := R.cell m b k e1 e2
    rcases k.pln_or with hc | ⟨P, nm, rfl⟩
    · obtain ⟨C', dx', vs', q1, q2, q3, q4⟩ := (cellOk_iff hc).mp cc
      exact (cellOk_iff hc).mpr ⟨C', dx', vs', q1, by rw [upd_ne hab]; exact q2, q3, q4.keep R (keep_write hm)⟩
    · obtain ⟨ea, t⟩ := cellOk_tab.mp cc
      refine cellOk_tab.mpr ⟨ea, tabN_keep t (upd_ne hab) fun c' q e => ?_⟩
      rw [upd_ne (fun z => ?_)]
      · exact e
      · subst z
        unfold LamX.CodeO at e
        rcases R.wr _ hm with ⟨_, z⟩ | ⟨_, _, _, z⟩ | ⟨_, z⟩ | ⟨_, z⟩ | ⟨_, z⟩ <;> rw [e] at z <;> cases z
theorem Step.write {n : Nat} {a C dx : Addr} {c : Cell} {vs : List V} (R : Rel K mg μ S H) (hn : μ[n]? = some a) (h1 : c.cls mg C) (h2 : c.wf) (h3 : RepL K μ H c.items vs) (hpl : c.pln = true := by rfl) : Step K mg μ H μ (S.set n c) (upd H a (c.ho C dx vs)) :=
  ⟨[], by simp, R.write hn h1 h2 h3 hpl, keep_write (List.mem_of_getElem? hn), fun _ z => nomatch z⟩

/-! ### cutting back -/
mutual
theorem Rep.lo {d : D} {v : V} : Rep K μ H d v → d.lo μ.length = true := by
  cases d with
  | non => intro _; rfl
  | bl _ => intro _; rfl
  | int _ => intro _; rfl
  | str _ => intro _; rfl
  | tup ds =>
    intro h; unfold Rep at h; obtain ⟨_, _, _, _, r⟩ := h
    unfold D.lo; exact RepL.lo r
  | ptup ds =>
    intro h; unfold Rep at h; obtain ⟨_, _, _, _, r⟩ := h
    unfold D.lo; exact RepL.lo r
  | ref n =>
    intro h; unfold Rep at h; obtain ⟨_, e, _⟩ := h
    unfold D.lo; exact decide_eq_true (List.getElem?_eq_some_iff.mp e).1
  | fro ds =>
    intro h; unfold Rep at h; obtain ⟨_, _, _, _, r⟩ := h
    unfold D.lo; exact RepL.lo r
  | lst _ => intro h; unfold Rep at h; exact h.elim
  | obj _ _ _ => intro h; unfold Rep at h; exact h.elim
  | dk _ _ => intro h; unfold Rep at h; exact h.elim
  | dt _ _ => intro h; unfold Rep at h; exact h.elim
  | exn a dx ks ds =>
    intro h; unfold Rep at h; obtain ⟨_, e0, r⟩ := h
    unfold D.lo
    cases dx with
    | none => rw [e0 rfl]; rfl
    | some x =>
      obtain ⟨vs, _, _, r⟩ := r x rfl
      exact RepL.lo r
  | fn c ds =>
    intro h; unfold Rep at h; obtain ⟨_, _, _, r⟩ := h
    unfold D.lo; exact RepL.lo r
theorem RepL.lo {ds : List D} {vs : List V} : RepL K μ H ds vs → loL μ.length ds = true := by
  cases ds with
  | nil => intro _; rfl
  | cons d ds =>
    intro h
    obtain ⟨v, r, rfl, h1, h2⟩ := RepL.cons_iff.mp h
    unfold loL
    rw [Rep.lo h1, RepL.lo h2]; rfl
end
mutual
theorem Rep.cut {d : D} {v : V} : Rep K (μ ++ ext) H d v → d.lo μ.length = true → Rep K μ H d v := by
  cases d with
  | non => intro h _; unfold Rep at h ⊢; exact h
  | bl _ => intro h _; unfold Rep at h ⊢; exact h
  | int _ => intro h _; unfold Rep at h ⊢; exact h
  | str _ => intro h _; unfold Rep at h ⊢; exact h
  | tup ds =>
    intro h l; unfold Rep at h ⊢; obtain ⟨a, vs, e, q, r⟩ := h
    unfold D.lo at l; exact ⟨a, vs, e, q, RepL.cut r l⟩
  | ptup ds =>
    intro h l; unfold Rep at h ⊢; obtain ⟨a, vs, e, q, r⟩ := h
    unfold D.lo at l; exact ⟨a, vs, e, q, RepL.cut r l⟩
  | ref n =>
    intro h l; unfold Rep at h ⊢; obtain ⟨a, e, q⟩ := h
    unfold D.lo at l
    rw [List.getElem?_append_left (of_decide_eq_true l)] at e
    exact ⟨a, e, q⟩
  | fro ds =>
    intro h l; unfold Rep at h ⊢; obtain ⟨a, vs, e, q, r⟩ := h
    unfold D.lo at l; exact ⟨a, vs, e, q, RepL.cut r l⟩
  | lst _ => intro h _; unfold Rep at h; exact h.elim
  | obj _ _ _ => intro h _; unfold Rep at h; exact h.elim
  | dk _ _ => intro h _; unfold Rep at h; exact h.elim
  | dt _ _ => intro h _; unfold Rep at h; exact h.elim
  | exn a dx ks ds =>
    intro h l; unfold Rep at h ⊢; obtain ⟨e, e0, r⟩ := h
    unfold D.lo at l
    refine ⟨e, e0, fun x hx => ?_⟩
    obtain ⟨vs, h1, h2, h3⟩ := r x hx
    exact ⟨vs, h1, h2, RepL.cut h3 l⟩
  | fn c ds =>
    intro h l; unfold Rep at h ⊢; obtain ⟨e, h1, h2, r⟩ := h
    unfold D.lo at l; exact ⟨e, h1, h2, RepL.cut r l⟩
theorem RepL.cut {ds : List D} {vs : List V} : RepL K (μ ++ ext) H ds vs → loL μ.length ds = true → RepL K μ H ds vs := by
  cases ds with
  | nil => intro h _; rw [RepL.nil_iff] at h ⊢; exact h
  | cons d ds =>
    intro h l
    obtain ⟨v, r, rfl, h1, h2⟩ := RepL.cons_iff.mp h
    unfold loL at l
    rw [Bool.and_eq_true] at l
    exact RepL.cons (Rep.cut h1 l.1) (RepL.cut h2 l.2)
end
/-- the elder cells hold no newer ones -/
def Clean (S S' : Store) : Prop := ∀ k, k < S.length → S'[k]? = S[k]? ∨ ∃ c, S'[k]? = some c ∧ c.lo S.length = true
theorem Rel.cut (R : Rel K mg μ S H) (R' : Rel K mg (μ ++ ext) S' H') (c : Clean S S') : Rel K mg μ (S'.take S.length) H' := by
  have hl := R'.len
  have hl0 := R.len
  rw [List.length_append] at hl
  refine ⟨R.nd, by simp; omega, fun n a k h1 h2 => ?_⟩
  have hn : n < μ.length := (List.getElem?_eq_some_iff.mp h1).1
  rw [List.getElem?_take, if_pos (by omega)] at h2
  have h1' : (μ ++ ext)[n]? = some a := by rw [List.getElem?_append_left hn]; exact h1
  have cc := R'.cell n a k h1' h2
  rcases k.pln_or with hc | ⟨P, nm, rfl⟩
  case inr => exact cc
  obtain ⟨C, dx, vs, q1, q2, q3, q4⟩ := (cellOk_iff hc).mp cc
  refine (cellOk_iff hc).mpr ⟨C, dx, vs, q1, q2, q3, q4.cut ?_⟩
  rw [hl0]
  rcases c n (by omega) with z | ⟨c', z, l⟩
  · rw [h2] at z
    obtain ⟨_, _, _, _, _, _, r⟩ := (cellOk_iff hc).mp (R.cell n a k h1 z.symm)
    rw [← hl0]
    exact r.lo
  · rw [h2] at z; cases z; exact (Cell.lo_pln l).2
end Ev
/-! Ev2: outcomes, the judgement of an expression, values' operations. -/
namespace Ev
open PySem PySem.Spec PyProof.Rows L2

inductive Out (α : Type) where
  | ok (a : α) (S : Store) | exc (c : Str) (ks : List Str) (ds : List D) (S : Store) | fail
def Out.bind {α β : Type} (r : Out α) (f : α → Store → Out β) : Out β := match r with
  | .ok a S => f a S
  | .exc c ks ds S => .exc c ks ds S
  | .fail => .fail
@[simp] theorem bind_ok {α β : Type} {a : α} {S : Store} {f : α → Store → Out β} : (Out.ok a S).bind f = f a S := rfl
@[simp] theorem bind_exc {α β : Type} {c : Str} {ks : List Str} {ds : List D} {S : Store} {f : α → Store → Out β} : (Out.exc c ks ds S : Out α).bind f = .exc c ks ds S := rfl
@[simp] theorem bind_fail {α β : Type} {f : α → Store → Out β} : (Out.fail : Out α).bind f = .fail := rfl
theorem bind_eq_ok {α β : Type} {r : Out α} {f : α → Store → Out β} {b : β} {S : Store} (h : r.bind f = .ok b S) : ∃ a S1, r = .ok a S1 ∧ f a S1 = .ok b S := by
  cases r with
  | ok a S1 => exact ⟨a, S1, rfl, h⟩
  | exc => cases h
  | fail => cases h
/-- a function that may fail, no store changed -/
def Out.of {α : Type} (o : Option α) (S : Store) : Out α := match o with
  | some a => .ok a S
  | none => .fail
@[simp] theorem of_some {α : Type} {a : α} {S : Store} : Out.of (some a) S = .ok a S := rfl
@[simp] theorem of_none {α : Type} {S : Store} : Out.of (none : Option α) S = .fail := rfl

/-- an exception's representation -/
def ExcRep (K : PySem.W.Frag) (mg : Str → Option Value) (μ : List Addr) (H : Hp) (c : Str) (ks : List Str) (ds : List D) (cls : Value) (dx : Option Addr) : Prop :=
  ∃ C, mg c = some (.ref C) ∧ cls = .ref C ∧ match dx with
    | none => ks = [] ∧ ds = []
    | some x => ∃ vs, H x = some (.xd (ks.zip vs)) ∧ ks.length = ds.length ∧ RepL K μ H ds vs
section
variable (K : PySem.W.Frag) (mg : Str → Option Value) (W : WX) (μ : List Addr) (H : Hp) (σ : L2.St)
/-- it does not fail, and an exception is wanted -/
def Fine {α : Type} (r : Out α) : Prop := match r with
  | .ok _ _ => True
  | .exc c ks ds S' => ∀ cls dx μ' H', Step K mg μ H μ' S' H' → ExcRep K mg μ' H' c ks ds cls dx → W cls dx σ H'
  | .fail => False
end
section
variable {K : PySem.W.Frag} {mg : Str → Option Value} {W : WX} {μ μ1 : List Addr} {H H1 : Hp} {σ : L2.St} {S S1 : Store} {α β : Type} {r : Out α} {f : α → Store → Out β}
theorem Fine.left (h : Fine K mg W μ H σ (r.bind f)) : Fine K mg W μ H σ r := by
  cases r with
  | ok _ _ => trivial
  | exc _ _ _ _ => exact h
  | fail => exact h
theorem Fine.right {a : α} (R : Rel K mg μ S H) (st : Step K mg μ H μ1 S1 H1) (h : Fine K mg W μ H σ (r.bind f)) (e : r = .ok a S1) : Fine K mg W μ1 H1 σ (f a S1) := by
  subst e
  have h : Fine K mg W μ H σ (f a S1) := h
  cases q : f a S1 with
  | ok _ _ => trivial
  | exc _ _ _ _ =>
    rw [q] at h
    exact fun cls dx μ' H' s2 x => h cls dx μ' H' (st.trans R s2) x
  | fail => rw [q] at h; exact h
theorem Fine.back {a : Out α} (R : Rel K mg μ S H) (st : Step K mg μ H μ1 S1 H1) (h : Fine K mg W μ H σ a) : Fine K mg W μ1 H1 σ a := by
  cases a with
  | ok _ _ => trivial
  | exc _ _ _ _ => exact fun cls dx μ' H' s2 x => h cls dx μ' H' (st.trans R s2) x
  | fail => exact h
end

abbrev M (α : Type) := Env' → Store → Out α
/-- what a run of an expression leaves -/
def EvP (X : Cx) (pins : List (Addr × Obj)) (σ : L2.St) (μ : List Addr) (H0 H : Hp) (r : Out D) (u : Value) (s' : Shared) : Prop :=
  ∃ d S' v μ' H', r = .ok d S' ∧ Inv X pins σ H' s' ∧ RelV v u ∧ Step X.K X.mg μ H μ' S' H' ∧ ResOk X.K X.mg μ' H0 H' d v
/-- the judgement -/
structure EvE (X : Cx) (W : WX) (e : Expr) (m : M D) : Prop where
  run : ∀ (pins : List (Addr × Obj)) (s : Shared) (σ : L2.St) (H : Hp) (μ : List Addr) (S : Store) (ρ : Env'), Inv X pins σ H s → Rel X.K X.mg μ S H → EnvOk X.K μ H ρ σ → Fine X.K X.mg W μ H σ (m ρ S) →
    wpAny (model X.prog X.w) X.A (eval e X.env) (EvP X pins σ μ H H (m ρ S)) X.xe s
/-- a test -/
structure EvT (X : Cx) (W : WX) (e : Expr) (m : M Bool) : Prop where
  run : ∀ (pins : List (Addr × Obj)) (s : Shared) (σ : L2.St) (H : Hp) (μ : List Addr) (S : Store) (ρ : Env'), Inv X pins σ H s → Rel X.K X.mg μ S H → EnvOk X.K μ H ρ σ → Fine X.K X.mg W μ H σ (m ρ S) →
    wpAny (model X.prog X.w) X.A (isTrue e X.env (eval e X.env)) (fun b s' => ∃ S' μ' H', m ρ S = .ok b S' ∧ Inv X pins σ H' s' ∧ Step X.K X.mg μ H μ' S' H') X.xe s

section
variable {X : Cx} {W : WX} {e : Expr} {m : M D}
def TM (X : Cx) (W : WX) (m : M D) : TE := fun σ H Q => ∃ μ S ρ, Rel X.K X.mg μ S H ∧ EnvOk X.K μ H ρ σ ∧ Fine X.K X.mg W μ H σ (m ρ S) ∧
  ∀ d S' v μ' H', m ρ S = .ok d S' → Step X.K X.mg μ H μ' S' H' → ResOk X.K X.mg μ' H H' d v → Q v H'
theorem EvE.pe (h : EvE X W e m) : PE X e (TM X W m) := by
  refine ⟨fun pins s σ H Q I ⟨μ, S, ρ, R, E, F, q⟩ => thn (h.run pins s σ H μ S ρ I R E F) fun u s' ⟨d, S', v, μ', H', e, I', r, st, x⟩ => ?_⟩
  exact ⟨v, H', I', r, q d S' v μ' H' e st x⟩
theorem EvE.of_pe {t : TE} (h : PE X e t) (q : ∀ σ H μ S ρ, Rel X.K X.mg μ S H → EnvOk X.K μ H ρ σ → Fine X.K X.mg W μ H σ (m ρ S) →
    t σ H fun v H' => ∃ d S' μ', m ρ S = .ok d S' ∧ Step X.K X.mg μ H μ' S' H' ∧ ResOk X.K X.mg μ' H H' d v) : EvE X W e m := by
  refine ⟨fun pins s σ H μ S ρ I R E F => thn (h.run pins s σ H _ I (q σ H μ S ρ R E F)) fun u s' ⟨v, H', I', r, d, S', μ', e, st, x⟩ => ?_⟩
  exact ⟨d, S', v, μ', H', e, I', r, st, x⟩
def TMt (X : Cx) (W : WX) (m : M Bool) : TT := fun σ H Q => ∃ μ S ρ, Rel X.K X.mg μ S H ∧ EnvOk X.K μ H ρ σ ∧ Fine X.K X.mg W μ H σ (m ρ S) ∧
  ∀ b S' μ' H', m ρ S = .ok b S' → Step X.K X.mg μ H μ' S' H' → Q b H'
theorem EvT.pt {m : M Bool} (h : EvT X W e m) : PT X e (TMt X W m) := by
  refine ⟨fun pins s σ H Q I ⟨μ, S, ρ, R, E, F, q⟩ => thn (h.run pins s σ H μ S ρ I R E F) fun b s' ⟨S', μ', H', e, I', st⟩ => ?_⟩
  exact ⟨H', I', q b S' μ' H' e st⟩
theorem EvT.of_pt {m : M Bool} {t : TT} (h : PT X e t) (q : ∀ σ H μ S ρ, Rel X.K X.mg μ S H → EnvOk X.K μ H ρ σ → Fine X.K X.mg W μ H σ (m ρ S) →
    t σ H fun b H' => ∃ S' μ', m ρ S = .ok b S' ∧ Step X.K X.mg μ H μ' S' H') : EvT X W e m := by
  refine ⟨fun pins s σ H μ S ρ I R E F => thn (h.run pins s σ H _ I (q σ H μ S ρ R E F)) fun b s' ⟨H', I', S', μ', e, st⟩ => ?_⟩
  exact ⟨S', μ', H', e, I', st⟩
end

/-! ### what a value shows -/
/-- a list's items -/
def seqL (S : Store) : D → Option (List D)
  | .lst ds => some ds
  | .fro ds => some ds
  | .ref n => match S[n]? with
    | some (.lst ds) => some ds
    | _ => none
  | _ => none
/-- .. of a list that may be written -/
def seqW (S : Store) : D → Option (List D)
  | .lst ds => some ds
  | .ref n => match S[n]? with
    | some (.lst ds) => some ds
    | _ => none
  | _ => none
def seqT : D → Option (List D)
  | .tup ds => some ds
  | _ => none
def seqA (S : Store) (d : D) : Option (List D) := match seqT d with
  | some ds => some ds
  | none => seqL S d
section
variable {K : PySem.W.Frag} {mg : Str → Option Value} {μ : List Addr} {H0 H : Hp} {S : Store} {d : D} {ds : List D} {v : V}
theorem seqW_ok (R : Rel K mg μ S H) (x : ResOk K mg μ H0 H d v) (e : seqW S d = some ds) : ∃ a vs, v = .ref a ∧ H a = some (.lst vs) ∧ RepL K μ H ds vs := by
  cases d with
  | lst es =>
    cases e
    unfold ResOk at x
    obtain ⟨a, rfl, ⟨C, dx, vs, _, h, _, r⟩, _⟩ := x
    exact ⟨a, vs, rfl, h, r⟩
  | ref n =>
    unfold seqW at e
    dsimp only at e
    split at e
    · rename_i es hn
      cases e
      have x := x.rep rfl
      unfold Rep at x
      obtain ⟨a, ha, rfl⟩ := x
      obtain ⟨C, dx, vs, _, h, _, r⟩ := R.cell n a _ ha hn
      exact ⟨a, vs, rfl, h, r⟩
    · cases e
  | _ => cases e
theorem seqL_ok (R : Rel K mg μ S H) (x : ResOk K mg μ H0 H d v) (e : seqL S d = some ds) : ∃ a vs, v = .ref a ∧ SqL K H a vs ∧ RepL K μ H ds vs := by
  cases d with
  | lst es =>
    obtain ⟨a, vs, e1, h, r⟩ := seqW_ok (ds := ds) R x e
    exact ⟨a, vs, e1, SqL.of h, r⟩
  | ref n =>
    obtain ⟨a, vs, e1, h, r⟩ := seqW_ok (ds := ds) R x e
    exact ⟨a, vs, e1, SqL.of h, r⟩
  | fro es =>
    cases e
    have x := x.rep rfl
    unfold Rep at x
    obtain ⟨a, vs, rfl, h, r⟩ := x
    exact ⟨a, vs, rfl, h.seq, r⟩
  | _ => cases e
theorem seqT_ok (x : ResOk K mg μ H0 H d v) (e : seqT d = some ds) : ∃ a vs, v = .ref a ∧ SqT K H a vs ∧ RepL K μ H ds vs := by
  cases d with
  | tup es =>
    cases e
    have x := x.rep rfl
    unfold Rep at x
    exact x
  | _ => cases e
theorem seqA_ok (R : Rel K mg μ S H) (x : ResOk K mg μ H0 H d v) (e : seqA S d = some ds) : ∃ a vs, v = .ref a ∧ (SqL K H a vs ∨ SqT K H a vs) ∧ RepL K μ H ds vs := by
  unfold seqA at e
  split at e
  · rename_i es h
    cases e
    obtain ⟨a, vs, e1, q, r⟩ := seqT_ok x h
    exact ⟨a, vs, e1, .inr q, r⟩
  · obtain ⟨a, vs, e1, q, r⟩ := seqL_ok R x e
    exact ⟨a, vs, e1, .inl q, r⟩
end

/-! ### equality of data -/
def py (S : Store) : Nat → D → Option PyData
  | 0, _ => none
  | k + 1, d => match d with
    | .non => some .none
    | .bl b => some (.bool b)
    | .int i => some (.int i)
    | .str x => some (.str x)
    | .tup ds => (ds.mapM (py S k)).map .tuple
    | .lst ds => (ds.mapM (py S k)).map .list
    | .fro ds => (ds.mapM (py S k)).map .list
    | .ref n => match S[n]? with
      | some (.lst ds) => (ds.mapM (py S k)).map .list
      | _ => none
    | _ => none
def eqD (S : Store) (d e : D) : Option Bool := match py S 66 d, py S 66 e with
  | some p, some q => if SeqAt.shaped p = true ∧ SeqAt.shaped q = true then some (PyData.eqv p q) else none
  | _, _ => none
section
variable {K : PySem.W.Frag} {mg : Str → Option Value} {μ : List Addr} {H0 H : Hp} {S : Store}
theorem pyAll {k : Nat} (ih : ∀ d p v, py S k d = some p → Rep K μ H d v → Dp K H v p) : ∀ (ds : List D) (ps : List PyData) (vs : List V), ds.mapM (py S k) = some ps → RepL K μ H ds vs → DpAll K H vs ps := by
  intro ds
  induction ds with
  | nil =>
    intro ps vs h r
    rw [RepL.nil_iff] at r
    subst r
    cases h
    exact .nil
  | cons d ds ih2 =>
    intro ps vs h r
    obtain ⟨v, w, rfl, r1, r2⟩ := RepL.cons_iff.mp r
    rw [List.mapM_cons] at h
    cases h1 : py S k d with
    | none => rw [h1] at h; cases h
    | some p =>
      cases h2 : ds.mapM (py S k) with
      | none => rw [h1, h2] at h; cases h
      | some qs =>
        rw [h1, h2] at h
        cases h
        exact .cons (ih d p v h1 r1) (ih2 qs w h2 r2)
theorem py_ok (R : Rel K mg μ S H) : ∀ (k : Nat) (d : D) (p : PyData) (v : V), py S k d = some p → ResOk K mg μ H0 H d v → Dp K H v p := by
  intro k
  induction k with
  | zero => intro d p v h; cases h
  | succ k ih =>
    intro d p v h x
    have ih' : ∀ d p v, py S k d = some p → Rep K μ H d v → Dp K H v p := fun d p v h r => ih d p v h (ResOk.plain r)
    unfold py at h
    cases d with
    | non => cases h; have x := x.rep rfl; unfold Rep at x; subst x; exact .non
    | bl b => cases h; have x := x.rep rfl; unfold Rep at x; subst x; exact .bl b
    | int b => cases h; have x := x.rep rfl; unfold Rep at x; subst x; exact .int b
    | str b => cases h; have x := x.rep rfl; unfold Rep at x; subst x; exact .str b
    | tup ds =>
      dsimp only at h
      cases h1 : ds.mapM (py S k) with
      | none => rw [h1] at h; cases h
      | some ps =>
        rw [h1] at h; cases h
        obtain ⟨a, vs, rfl, q, r⟩ := seqT_ok x rfl
        exact .tup q (pyAll ih' ds ps vs h1 r)
    | lst ds =>
      dsimp only at h
      cases h1 : ds.mapM (py S k) with
      | none => rw [h1] at h; cases h
      | some ps =>
        rw [h1] at h; cases h
        obtain ⟨a, vs, rfl, q, r⟩ := seqL_ok (ds := ds) R x rfl
        exact .lst q (pyAll ih' ds ps vs h1 r)
    | fro ds =>
      dsimp only at h
      cases h1 : ds.mapM (py S k) with
      | none => rw [h1] at h; cases h
      | some ps =>
        rw [h1] at h; cases h
        obtain ⟨a, vs, rfl, q, r⟩ := seqL_ok (ds := ds) R x rfl
        exact .lst q (pyAll ih' ds ps vs h1 r)
    | ref n =>
      dsimp only at h
      cases hn : S[n]? with
      | none => rw [hn] at h; cases h
      | some c =>
        rw [hn] at h
        cases c with
        | lst ds =>
          dsimp only at h
          cases h1 : ds.mapM (py S k) with
          | none => rw [h1] at h; cases h
          | some ps =>
            rw [h1] at h; cases h
            obtain ⟨a, vs, rfl, q, r⟩ := seqL_ok (ds := ds) R x (by unfold seqL; dsimp only; rw [hn])
            exact .lst q (pyAll ih' ds ps vs h1 r)
        | _ => cases h
    | _ => cases h
end
end Ev
/-! Ev3: operators by values, argument lists, expressions put together. -/
namespace Ev
open PySem PySem.Spec PyProof.Rows L2

/-- a two-place operation on values, the store unchanged -/
def OpD (X : Cx) (f : Value → Value → Sem Value) (g : D → D → Store → Option D) : Prop :=
  ∀ (pins : List (Addr × Obj)) (s : Shared) (σ : L2.St) (H : Hp) (μ : List Addr) (S : Store) (H0 : Hp) (d e : D) (v w : V) (u1 u2 : Value) (r : D), Inv X pins σ H s → Rel X.K X.mg μ S H → ResOk X.K X.mg μ H0 H d v → ResOk X.K X.mg μ H0 H e w →
    RelV v u1 → RelV w u2 → g d e S = some r →
    wpAny (model X.prog X.w) X.A (f u1 u2) (fun u s' => ∃ v' H', Inv X pins σ H' s' ∧ RelV v' u ∧ Step X.K X.mg μ H μ S H' ∧ ResOk X.K X.mg μ H H' r v') X.xe s
def mBin (g : D → D → Store → Option D) (ma mb : M D) : M D := fun ρ S => (ma ρ S).bind fun d S1 => (mb ρ S1).bind fun e S2 => Out.of (g d e S2) S2
section
variable {X : Cx} {W : WX}
theorem fine_of {K : PySem.W.Frag} {mg : Str → Option Value} {W : WX} {μ : List Addr} {H : Hp} {σ : L2.St} {α : Type} {o : Option α} {S : Store} (h : Fine K mg W μ H σ (Out.of o S)) : ∃ a, o = some a := by
  cases o with
  | none => exact h.elim
  | some a => exact ⟨a, rfl⟩
/-- two expressions, then an operation -/
theorem bin_run {a b : Expr} {ma mb : M D} {f : Value → Value → Sem Value} {g : D → D → Store → Option D} (ha : EvE X W a ma) (hb : EvE X W b mb) (ho : OpD X f g)
    {pins : List (Addr × Obj)} {s : Shared} {σ : L2.St} {H : Hp} {μ : List Addr} {S : Store} {ρ : Env'} (I : Inv X pins σ H s) (R : Rel X.K X.mg μ S H) (E : EnvOk X.K μ H ρ σ) (F : Fine X.K X.mg W μ H σ (mBin g ma mb ρ S)) :
    wpAny (model X.prog X.w) X.A (eval a X.env) (fun v s₁ => wpAny (model X.prog X.w) X.A (eval b X.env) (fun u s₂ => wpAny (model X.prog X.w) X.A (f v u) (EvP X pins σ μ H H (mBin g ma mb ρ S)) X.xe s₂) X.xe s₁) X.xe s := by
  refine thn (ha.run pins s σ H μ S ρ I R E F.left) fun u1 s1 ⟨d1, S1, v1, μ1, H1, e1, I1, r1, st1, x1⟩ => ?_
  have R1 := st1.rel
  have F1 : Fine X.K X.mg W μ1 H1 σ ((mb ρ S1).bind fun e S2 => Out.of (g d1 e S2) S2) := Fine.right (f := fun d S1 => (mb ρ S1).bind fun e S2 => Out.of (g d e S2) S2) R st1 F e1
  refine thn (hb.run pins s1 σ H1 μ1 S1 ρ I1 R1 (E.step R st1) F1.left) fun u2 s2 ⟨d2, S2, v2, μ2, H2, e2, I2, r2, st2, x2⟩ => ?_
  have R2 := st2.rel
  have F2 : Fine X.K X.mg W μ2 H2 σ (Out.of (g d1 d2 S2) S2) := Fine.right (f := fun e S2 => Out.of (g d1 e S2) S2) R1 st2 F1 e2
  obtain ⟨r, er⟩ := fine_of F2
  have st12 := st1.trans R st2
  refine thn (ho pins s2 σ H2 μ2 S2 H d1 d2 v1 v2 u1 u2 r I2 R2 (x1.step R1 st2) (x2.back R st1) r1 r2 er) fun u s' ⟨v', H', I', r', st', x'⟩ => ?_
  refine ⟨r, S2, v', μ2, H', ?_, I', r', st12.trans R st', x'.back R st12⟩
  unfold mBin
  rw [e1, bind_ok, e2, bind_ok, er]
  rfl
theorem OpD.of {f : Value → Value → Sem Value} {r : R2} {g : D → D → Store → Option D} (ho : OpR X f r)
    (q : ∀ (H : Hp) (μ : List Addr) (S : Store) (H0 : Hp) (d e : D) (v w : V) (res : D), Rel X.K X.mg μ S H → ResOk X.K X.mg μ H0 H d v → ResOk X.K X.mg μ H0 H e w → g d e S = some res →
      r v w H fun v' H' => Step X.K X.mg μ H μ S H' ∧ ResOk X.K X.mg μ H H' res v') : OpD X f g := by
  intro pins s σ H μ S H0 d e v w u1 u2 res I R x1 x2 r1 r2 eg
  exact thn (ho pins s σ H v w u1 u2 _ I r1 r2 (q H μ S H0 d e v w res R x1 x2 eg)) fun u s' ⟨v', H', I', r', st, x⟩ => ⟨v', H', I', r', st, x⟩
theorem OpD.or {f : Value → Value → Sem Value} {g g' : D → D → Store → Option D} (h : OpD X f g) (h' : OpD X f g') : OpD X f (fun d e S => match g d e S with | some r => some r | none => g' d e S) := by
  intro pins s σ H μ S H0 d e v w u1 u2 res I R x1 x2 r1 r2 eg
  dsimp only at eg
  split at eg
  · rename_i r hr
    cases eg
    exact h pins s σ H μ S H0 d e v w u1 u2 _ I R x1 x2 r1 r2 hr
  · exact h' pins s σ H μ S H0 d e v w u1 u2 res I R x1 x2 r1 r2 eg

/-! ### plain scalars -/
theorem rep_int {K : PySem.W.Frag} {mg : Str → Option Value} {μ : List Addr} {H0 H : Hp} {i : Int} {v : V} (x : ResOk K mg μ H0 H (.int i) v) : v = .int i := by
  have x := x.rep rfl; unfold Rep at x; exact x
theorem rep_bl {K : PySem.W.Frag} {mg : Str → Option Value} {μ : List Addr} {H0 H : Hp} {i : Bool} {v : V} (x : ResOk K mg μ H0 H (.bl i) v) : v = .bl i := by
  have x := x.rep rfl; unfold Rep at x; exact x
theorem rep_str {K : PySem.W.Frag} {mg : Str → Option Value} {μ : List Addr} {H0 H : Hp} {i : Str} {v : V} (x : ResOk K mg μ H0 H (.str i) v) : v = .str i := by
  have x := x.rep rfl; unfold Rep at x; exact x
theorem rep_non {K : PySem.W.Frag} {mg : Str → Option Value} {μ : List Addr} {H0 H : Hp} {v : V} (x : ResOk K mg μ H0 H .non v) : v = .non := by
  have x := x.rep rfl; unfold Rep at x; exact x
theorem res_int {K : PySem.W.Frag} {mg : Str → Option Value} {μ : List Addr} {H0 H : Hp} {i : Int} : ResOk K mg μ H0 H (.int i) (.int i) := ResOk.plain (by unfold Rep; rfl)
theorem res_bl {K : PySem.W.Frag} {mg : Str → Option Value} {μ : List Addr} {H0 H : Hp} {i : Bool} : ResOk K mg μ H0 H (.bl i) (.bl i) := ResOk.plain (by unfold Rep; rfl)
theorem res_str {K : PySem.W.Frag} {mg : Str → Option Value} {μ : List Addr} {H0 H : Hp} {i : Str} : ResOk K mg μ H0 H (.str i) (.str i) := ResOk.plain (by unfold Rep; rfl)
theorem res_non {K : PySem.W.Frag} {mg : Str → Option Value} {μ : List Addr} {H0 H : Hp} : ResOk K mg μ H0 H .non .non := ResOk.plain (by unfold Rep; rfl)

/-! ### arithmetic -/
/-- within bounds: no Decidable of their own, so that nothing counts down -/
structure In62 (j : Int) : Prop where
  lo : -(2 ^ 62) ≤ j
  hi : j < 2 ^ 62
structure In63 (j : Int) : Prop where
  lo : -(2 ^ 63) ≤ j
  hi : j < 2 ^ 63
structure InDm (j : Int) : Prop where
  lo : 0 < j
  hi : j < 1073741824
open Classical in
noncomputable def intC (C : Int → Int → Prop) (g : Int → Int → Int) (d e : D) (_ : Store) : Option D := match d, e with
  | .int i, .int j => if C i j then some (.int (g i j)) else none
  | _, _ => none
@[simp] theorem intC_int {C : Int → Int → Prop} {g : Int → Int → Int} {i j : Int} {S : Store} : intC C g (.int i) (.int j) S = @ite _ (C i j) (Classical.propDecidable _) (some (.int (g i j))) none := (rfl)
def addD (d e : D) (S : Store) : Option D := match d, e with
  | .int i, .int j => some (.int (i + j))
  | .int i, .bl b => some (.int (i + b2i b))
  | .str x, .str y => if x.length + y.length ≤ sizeLine then some (.str (x ++ y)) else none
  | .tup xs, .tup ys => if xs.length + ys.length ≤ sizeLine then some (.tup (xs ++ ys)) else none
  | d, e => match seqW S d, seqW S e with
    | some xs, some ys => if xs.length + ys.length ≤ sizeLine then some (.lst (xs ++ ys)) else none
    | _, _ => none
open Classical in
noncomputable def mulD (d e : D) (S : Store) : Option D := match d, e with
  | .int i, .int j => if i.natAbs.log2 + j.natAbs.log2 < 100000000 then some (.int (i * j)) else none
  | .tup xs, .int k => if k = 1 then some (.tup xs) else if xs ≠ [] ∧ 2 ≤ k ∧ k ≤ 1000 ∧ xs.length ≤ 1000 then some (.tup (List.replicate k.toNat xs).flatten) else none
  | d, .int k => match seqW S d with
    | some xs => if In63 k ∧ xs.length * k.toNat ≤ sizeLine then some (.lst (List.replicate k.toNat xs).flatten) else none
    | none => none
  | _, _ => none
def noD (_ _ : D) (_ : Store) : Option D := none
noncomputable def binD : Operator → D → D → Store → Option D
  | .Add => addD
  | .Sub => intC (fun _ _ => True) (fun i j => i - j)
  | .Mult => mulD
  | .FloorDiv => intC (fun _ j => 0 < j ∧ j.natAbs.log2 < 9000) (fun i j => i / j)
  | .Mod => intC (fun _ j => 0 < j) (fun i j => i % j)
  | .Pow => intC (fun i j => 0 ≤ j ∧ j ≤ 1000000 ∧ i.natAbs < 2 ^ 64) (fun i j => i ^ j.toNat)
  | .LShift => intC (fun i j => 0 ≤ j ∧ j ≤ 1000000 ∧ i.natAbs < 2 ^ 64) (fun i j => i * 2 ^ j.toNat)
  | .RShift => intC (fun _ j => 0 ≤ j) (fun i j => i / 2 ^ j.toNat)
  | .BitAnd => intC (fun _ _ => True) Builtin.bitAnd
  | .BitOr => intC (fun _ _ => True) Builtin.bitOr
  | .BitXor => intC (fun _ _ => True) Builtin.bitXor
  | .Div => noD
  | .MatMult => noD

/-- ints in, an int out -/
theorem binI {f : Value → Value → Sem Value} {C : Int → Int → Prop} {g : Int → Int → Int} (ho : OpR X f (rI C fun i j => .int (g i j))) : OpD X f (intC C g) := by
  refine OpD.of ho fun H μ S H0 d e v w res R x1 x2 eg => ?_
  unfold intC at eg
  split at eg
  · rename_i i j
    split at eg
    · rename_i hc
      cases eg
      exact ⟨i, j, rep_int x1, rep_int x2, hc, Step.refl R, res_int⟩
    · cases eg
  · cases eg
theorem binI0 {f : Value → Value → Sem Value} {g : Int → Int → Int} (ho : OpR X f (rI0 fun i j => .int (g i j))) : OpD X f (intC (fun _ _ => True) g) := by
  refine OpD.of ho fun H μ S H0 d e v w res R x1 x2 eg => ?_
  unfold intC at eg
  split at eg
  · rename_i i j
    rw [if_pos trivial] at eg
    cases eg
    exact ⟨i, j, rep_int x1, rep_int x2, Step.refl R, res_int⟩
  · cases eg
theorem noD_ok {f : Value → Value → Sem Value} : OpD X f noD := by
  intro pins s σ H μ S H0 d e v w u1 u2 res I R x1 x2 r1 r2 eg
  cases eg

theorem repL_flat {K : PySem.W.Frag} {μ : List Addr} {H : Hp} {ds : List D} {vs : List V} (r : RepL K μ H ds vs) : ∀ k : Nat, RepL K μ H (List.replicate k ds).flatten (List.replicate k vs).flatten
  | 0 => RepL.nil
  | k + 1 => by
    rw [List.replicate_succ, List.replicate_succ, List.flatten_cons, List.flatten_cons]
    exact r.append (repL_flat r k)

theorem op_addD : OpD X (binaryOp .Add) addD := by
  intro pins s σ H μ S H0 d e v w u1 u2 res I R x1 x2 r1 r2 eg
  unfold addD at eg
  split at eg
  · cases eg
    cases rep_int x1; cases rep_int x2
    exact thn (op_add pins s σ H _ _ u1 u2 (fun v' H' => Step X.K X.mg μ H μ S H' ∧ ResOk X.K X.mg μ H H' _ v') I r1 r2 ⟨_, _, rfl, rfl, Step.refl R, res_int⟩) fun u s' ⟨v', H', I', r', st, x⟩ => ⟨v', H', I', r', st, x⟩
  · cases eg
    cases rep_int x1; cases rep_bl x2
    exact thn (op_add_ib pins s σ H _ _ u1 u2 (fun v' H' => Step X.K X.mg μ H μ S H' ∧ ResOk X.K X.mg μ H H' _ v') I r1 r2 ⟨_, _, rfl, rfl, Step.refl R, res_int⟩) fun u s' ⟨v', H', I', r', st, x⟩ => ⟨v', H', I', r', st, x⟩
  · split at eg
    · cases eg
      cases rep_str x1; cases rep_str x2
      exact thn (op_add_str pins s σ H _ _ u1 u2 (fun v' H' => Step X.K X.mg μ H μ S H' ∧ ResOk X.K X.mg μ H H' _ v') I r1 r2 ⟨_, _, rfl, rfl, by assumption, Step.refl R, res_str⟩) fun u s' ⟨v', H', I', r', st, x⟩ => ⟨v', H', I', r', st, x⟩
    · cases eg
  · rename_i xs ys
    split at eg
    · rename_i hz
      cases eg
      obtain ⟨a, vs, rfl, q1, l1⟩ := seqT_ok x1 rfl
      obtain ⟨b, us, rfl, q2, l2⟩ := seqT_ok x2 rfl
      refine thn (op_catA pins s σ H _ _ u1 u2 (fun v' H' => Step X.K X.mg μ H μ S H' ∧ ResOk X.K X.mg μ H H' (.tup (xs ++ ys)) v') I r1 r2 ⟨a, b, vs, us, rfl, rfl, q1, q2, by rw [← l1.length, ← l2.length]; exact hz, fun z => ?_, fun _ z => ?_, fun _ _ p hp => ?_⟩) fun u s' ⟨v', H', I', r', st, x⟩ => ⟨v', H', I', r', st, x⟩
      · subst z
        have : xs = [] := List.length_eq_zero_iff.mp l1.length
        subst this
        exact ⟨Step.refl R, ResOk.plain (by unfold Rep; exact ⟨b, us, rfl, q2, l2⟩)⟩
      · subst z
        have : ys = [] := List.length_eq_zero_iff.mp l2.length
        subst this
        exact ⟨Step.refl R, ResOk.plain (by rw [List.append_nil]; unfold Rep; exact ⟨a, vs, rfl, q1, l1⟩)⟩
      · exact ⟨Step.fresh R hp, new_tup R hp (l1.append l2)⟩
    · cases eg
  · split at eg
    · rename_i xs ys h1 h2
      split at eg
      · rename_i hz
        cases eg
        obtain ⟨a, vs, rfl, q1, l1⟩ := seqW_ok R x1 h1
        obtain ⟨b, us, rfl, q2, l2⟩ := seqW_ok R x2 h2
        refine thn (op_cat pins s σ H _ _ u1 u2 (fun v' H' => Step X.K X.mg μ H μ S H' ∧ ResOk X.K X.mg μ H H' (.lst (xs ++ ys)) v') I r1 r2 ⟨a, b, vs, us, rfl, rfl, q1, q2, by rw [← l1.length, ← l2.length]; exact hz, fun p hp => ?_⟩) fun u s' ⟨v', H', I', r', st, x⟩ => ⟨v', H', I', r', st, x⟩
        exact ⟨Step.fresh R hp, new_lst R hp (l1.append l2)⟩
      · cases eg
    · cases eg
theorem tuple_mul1 (l : Addr) (items : Array Value) (n : Nat) (dd : Option Addr) (sl : Array (Option Value)) (u : Tok) :
    Meets (Builtin.«tuple.__mul__» ⟨[.ref l, .int 1 u], []⟩) (fun _ R s => s.heap.get? l = some { cls := .type "tuple", dict := dd, data := .seq items n, slots := sl } ∧ R (.ok (.ret (Value.ref l))) s) :=
  .of_wp fun prog w A R s h => by
    obtain ⟨hp, g, d, tk, os⟩ := s
    obtain ⟨hl, h⟩ := h
    have f1 := AutoSeq1.idx_int
    have c0 : (decide ((1 : Int) < -(2 ^ 63)) || decide ((1 : Int) ≥ 2 ^ 63)) = false := by decide
    have c1 : (items.isEmpty || (1 : Int) == 1) = true := by simp
    wp_walk using wpAny_loadPart' hl
    exact ⟨_, rfl, h⟩
/-- a tuple once is the tuple itself -/
def rRep1 (K : PySem.W.Frag) : R2 := fun x y H Q => ∃ l xs, x = .ref l ∧ y = .int 1 ∧ SqT K H l xs ∧ Q (.ref l) H
theorem op_rep1 : OpR X (binaryOp .Mult) (rRep1 X.K) := by
  intro pins s σ H x y v u Q I rx ry h
  obtain ⟨l, xs, rfl, rfl, hT, q⟩ := h
  cases rx
  obtain ⟨t, rfl⟩ := ry
  obtain ⟨its, r, ⟨⟨cls, dd, data, sl⟩, ho, hc, n, hd⟩, hs⟩ := I.tuple hT
  simp only at hc hd
  subst hc hd
  refine wpAny_binaryOp_repeat_ref (T := "tuple") (U := "int") (by decide) ⟨_, ho, rfl⟩ (fun s' => typeIs_int s' 1 t) noFill_tuple_mul F.fills_int_mul F.slot_int_rmul repeat_tuple F.slot_int_index.lookup
    (call_meets F.slot_int_rmul (typeIs_int s 1 t) F.entry_int_rmul (F.args_int_rmul_2 _ _) (int_rmul_tuple 1 t l its.toArray n dd sl)
      ⟨ho, rfl, ⟨_, ho, rfl⟩, call_meets F.slot_tuple_mul ⟨_, ho, rfl⟩ F.entry_tuple_mul (F.args_tuple_mul_2 _ _) (tuple_mul1 l its.toArray n dd sl t) ⟨ho, ?_⟩⟩)
  exact ⟨.ref l, H, I, rfl, q⟩
theorem mulX_ok {i j : Int} (h : i.natAbs.log2 + j.natAbs.log2 < 100000000) : IntMulOk i j := by
  have b : ∀ x : Int, Builtin.Int.intBits x ≤ x.natAbs.log2 + 1 := fun x => by
    unfold Builtin.Int.intBits
    split <;> omega
  have h1 := b i
  have h2 := b j
  have e : bitsLine = 134217728 := by decide
  unfold IntMulOk
  intro z
  rw [Bool.and_eq_true] at z
  have z2 := z.2
  unfold Builtin.Int.intTooBig at z2
  have z3 := of_decide_eq_true z2
  rw [e] at z3
  omega
theorem op_mulX : OpR X (binaryOp .Mult) (rI (fun i j => i.natAbs.log2 + j.natAbs.log2 < 100000000) fun i j => .int (i * j)) := opI fun _ _ _ _ _ _ _ hc q => mul_int q (mulX_ok hc)
theorem op_multD : OpD X (binaryOp .Mult) mulD := by
  intro pins s σ H μ S H0 d e v w u1 u2 res I R x1 x2 r1 r2 eg
  unfold mulD at eg
  split at eg
  · split at eg
    · rename_i hc
      cases eg
      cases rep_int x1; cases rep_int x2
      exact thn (op_mulX pins s σ H _ _ u1 u2 (fun v' H' => Step X.K X.mg μ H μ S H' ∧ ResOk X.K X.mg μ H H' _ v') I r1 r2 ⟨_, _, rfl, rfl, hc, Step.refl R, res_int⟩) fun u s' ⟨v', H', I', r', st, x⟩ => ⟨v', H', I', r', st, x⟩
    · cases eg
  · split at eg
    · rename_i xs k hk
      cases eg
      subst hk
      obtain ⟨a, vs, rfl, q1, l1⟩ := seqT_ok x1 rfl
      cases rep_int x2
      exact thn (op_rep1 pins s σ H _ _ u1 u2 (fun v' H' => Step X.K X.mg μ H μ S H' ∧ ResOk X.K X.mg μ H H' (.tup xs) v') I r1 r2 ⟨a, vs, rfl, rfl, q1, Step.refl R, ResOk.plain (by unfold Rep; exact ⟨a, vs, rfl, q1, l1⟩)⟩) fun u s' ⟨v', H', I', r', st, x⟩ => ⟨v', H', I', r', st, x⟩
    rename_i xs k _
    split at eg
    · rename_i hz
      cases eg
      obtain ⟨a, vs, rfl, q1, l1⟩ := seqT_ok x1 rfl
      cases rep_int x2
      have hv : vs ≠ [] := fun e => hz.1 (List.eq_nil_of_length_eq_zero (by rw [l1.length, e]; rfl))
      refine thn (op_repT pins s σ H _ _ u1 u2 (fun v' H' => Step X.K X.mg μ H μ S H' ∧ ResOk X.K X.mg μ H H' (.tup (List.replicate _ xs).flatten) v') I r1 r2 ⟨a, _, vs, rfl, rfl, q1, hv, hz.2.1, hz.2.2.1, by rw [← l1.length]; exact hz.2.2.2, fun p hp => ?_⟩) fun u s' ⟨v', H', I', r', st, x⟩ => ⟨v', H', I', r', st, x⟩
      exact ⟨Step.fresh R hp, new_tup R hp (repL_flat l1 _)⟩
    · cases eg
  · split at eg
    · rename_i xs h1
      split at eg
      · rename_i hz
        cases eg
        obtain ⟨a, vs, rfl, q1, l1⟩ := seqW_ok R x1 h1
        cases rep_int x2
        refine thn (op_rep pins s σ H _ _ u1 u2 (fun v' H' => Step X.K X.mg μ H μ S H' ∧ ResOk X.K X.mg μ H H' (.lst (List.replicate _ xs).flatten) v') I r1 r2 ⟨a, _, vs, rfl, rfl, q1, hz.1.lo, hz.1.hi, by rw [← l1.length]; exact hz.2, fun p hp => ?_⟩) fun u s' ⟨v', H', I', r', st, x⟩ => ⟨v', H', I', r', st, x⟩
        exact ⟨Step.fresh R hp, new_lst R hp (repL_flat l1 _)⟩
      · cases eg
    · cases eg
  · cases eg
theorem binD_ok : ∀ op : Operator, OpD X (binaryOp op) (binD op)
  | .Add => op_addD
  | .Mult => op_multD
  | .Sub => binI0 op_sub
  | .FloorDiv => binI op_fdivW
  | .Mod => binI op_mod
  | .Pow => binI op_pow
  | .LShift => binI op_shl
  | .RShift => binI op_shr
  | .BitAnd => binI0 op_and
  | .BitOr => binI0 op_or
  | .BitXor => binI0 op_xor
  | .Div => noD_ok
  | .MatMult => noD_ok
theorem ev_bin {a b : Expr} {op : Operator} {pos : Pos} {ma mb : M D} (ha : EvE X W a ma) (hb : EvE X W b mb) : EvE X W (.BinOp a op b pos) (mBin (binD op) ma mb) :=
  ⟨fun pins s σ H μ S ρ I R E F => wpAny_BinOp (bin_run ha hb (binD_ok op) I R E F)⟩

/-! ### comparisons -/
def eqC (neg : Bool) (d e : D) (S : Store) : Option D := match eqD S d e with
  | some b => some (.bl (if neg then !b else b))
  | none => none
def intB (p : Int → Int → Bool) (d e : D) (_ : Store) : Option D := match d, e with
  | .int i, .int j => some (.bl (p i j))
  | _, _ => none
@[simp] theorem intB_int {p : Int → Int → Bool} {i j : Int} {S : Store} : intB p (.int i) (.int j) S = some (.bl (p i j)) := rfl
def intsD : List D → Option (List Int)
  | [] => some []
  | .int i :: ds => match intsD ds with
    | some ns => some (i :: ns)
    | none => none
  | _ :: _ => none
def ltD (d e : D) (S : Store) : Option D := match d, e with
  | .int i, .int j => some (.bl (decide (i < j)))
  | .str x, .str y => some (.bl (decide (x.cps.toList < y.cps.toList)))
  | .tup xs, .tup ys => match intsD xs, intsD ys with
    | some ns, some ms => some (.bl (HT.lexLt ns ms))
    | _, _ => none
  | _, _ => none
/-- flat values, as they are -/
def flatD : D → Option V
  | .non => some .non
  | .bl b => some (.bl b)
  | .int i => some (.int i)
  | .str x => some (.str x)
  | _ => none
def inD (neg : Bool) (d e : D) (S : Store) : Option D := match d, e with
  | .str x, .str y => some (.bl (if neg then !(!(Builtin.Str.occurrences y x 0 y.length 1).isEmpty) else !(Builtin.Str.occurrences y x 0 y.length 1).isEmpty))
  | d, e => match flatD d, seqA S e with
    | some v, some ds => match ds.mapM flatD with
      | some vs => some (.bl (if neg then !inV v vs else inV v vs))
      | none => none
    | _, _ => none
def isD (neg : Bool) (d e : D) (_ : Store) : Option D := match e with
  | .non => match d with
    | .non => some (.bl (!neg))
    | _ => some (.bl neg)
  | .bl b => match d with
    | .bl c => some (.bl (if neg then !(c == b) else c == b))
    | _ => some (.bl neg)
  | _ => none
def cmpD : CmpOp → D → D → Store → Option D
  | .Eq => eqC false
  | .NotEq => eqC true
  | .Lt => ltD
  | .LtE => intB fun i j => decide (i ≤ j)
  | .Gt => intB fun i j => decide (j < i)
  | .GtE => intB fun i j => decide (j ≤ i)
  | .Is => isD false
  | .IsNot => isD true
  | .In => inD false
  | .NotIn => inD true

theorem intsD_ok {K : PySem.W.Frag} {μ : List Addr} {H : Hp} : ∀ {ds : List D} {ns : List Int} {vs : List V}, intsD ds = some ns → RepL K μ H ds vs → vs = ns.map V.int := by
  intro ds
  induction ds with
  | nil => intro ns vs h r; cases h; rw [RepL.nil_iff] at r; subst r; rfl
  | cons d ds ih =>
    intro ns vs h r
    obtain ⟨v, w, rfl, r1, r2⟩ := RepL.cons_iff.mp r
    cases d with
    | int i =>
      unfold intsD at h
      split at h
      · rename_i ms hm
        cases h
        unfold Rep at r1
        rw [r1, ih hm r2]; rfl
      · cases h
    | _ => cases h
theorem flatD_ok {K : PySem.W.Frag} {mg : Str → Option Value} {μ : List Addr} {H0 H : Hp} {d : D} {v w : V} (h : flatD d = some v) (x : ResOk K mg μ H0 H d w) : w = v ∧ flatV v = true := by
  cases d with
  | non => cases h; exact ⟨rep_non x, rfl⟩
  | bl _ => cases h; exact ⟨rep_bl x, rfl⟩
  | int _ => cases h; exact ⟨rep_int x, rfl⟩
  | str _ => cases h; exact ⟨rep_str x, rfl⟩
  | _ => cases h
theorem flatL_ok {K : PySem.W.Frag} {μ : List Addr} {H : Hp} : ∀ {ds : List D} {us vs : List V}, ds.mapM flatD = some us → RepL K μ H ds vs → vs = us ∧ us.all flatV = true := by
  intro ds
  induction ds with
  | nil => intro us vs h r; rw [List.mapM_nil] at h; cases h; rw [RepL.nil_iff] at r; subst r; exact ⟨rfl, rfl⟩
  | cons d ds ih =>
    intro us vs h r
    obtain ⟨v, w, rfl, r1, r2⟩ := RepL.cons_iff.mp r
    rw [List.mapM_cons] at h
    cases h1 : flatD d with
    | none => rw [h1] at h; cases h
    | some u =>
      cases h2 : ds.mapM flatD with
      | none => rw [h1, h2] at h; cases h
      | some ws =>
        rw [h1, h2] at h
        cases h
        obtain ⟨e1, f1⟩ := flatD_ok (mg := fun _ => none) (H0 := H) h1 (ResOk.plain r1)
        obtain ⟨e2, f2⟩ := ih h2 r2
        exact ⟨by rw [e1, e2], by rw [List.all_cons, f1, f2]; rfl⟩
theorem is_bool_gen {M : Model} {A : Around} {E : Value → Shared → Prop} {s : Shared} {Q : Value → Shared → Prop} {x : V} {v : Value} {b : Bool} (r : RelV x v) (h : Q (.bool (decide (x = .bl b))) s) : wpAny M A (compareOp .Is v (.bool b)) Q E s := by
  have e : decide (x = .bl b) = (v == Value.bool b) := by
    cases x <;> first
      | (cases r; rfl)
      | (obtain ⟨t, rfl⟩ := r; rfl)
      | (cases r; rw [Bool.eq_iff_iff]; simp)
  rw [e] at h
  cases x <;> first
    | (cases r; exact wpAny_pure h)
    | (obtain ⟨t, rfl⟩ := r; exact wpAny_pure h)
theorem isnot_bool_gen {M : Model} {A : Around} {E : Value → Shared → Prop} {s : Shared} {Q : Value → Shared → Prop} {x : V} {v : Value} {b : Bool} (r : RelV x v) (h : Q (.bool (!decide (x = .bl b))) s) : wpAny M A (compareOp .IsNot v (.bool b)) Q E s := by
  have e : decide (x = .bl b) = (v == Value.bool b) := by
    cases x <;> first
      | (cases r; rfl)
      | (obtain ⟨t, rfl⟩ := r; rfl)
      | (cases r; rw [Bool.eq_iff_iff]; simp)
  rw [e] at h
  cases x <;> first
    | (cases r; exact wpAny_pure h)
    | (obtain ⟨t, rfl⟩ := r; exact wpAny_pure h)

theorem fin_bool {pins : List (Addr × Obj)} {σ : L2.St} {H H0 : Hp} {s : Shared} {μ : List Addr} {S : Store} {k : Bool} (I : Inv X pins σ H s) (R : Rel X.K X.mg μ S H) :
    ∃ v' H', Inv X pins σ H' s ∧ RelV v' (.bool k) ∧ Step X.K X.mg μ H μ S H' ∧ ResOk X.K X.mg μ H H' (.bl k) v' := ⟨.bl k, H, I, rfl, Step.refl R, res_bl⟩
theorem eqC_ok (hu : X.A.units + 64 < cLine) : OpD X (compareOp .Eq) (eqC false) := by
  refine OpD.of (op_eqD hu) fun H μ S H0 d e v w res R x1 x2 eg => ?_
  unfold eqC at eg
  split at eg
  · rename_i b hb
    cases eg
    unfold eqD at hb
    split at hb
    · rename_i p q h1 h2
      split at hb
      · rename_i hs
        cases hb
        exact ⟨p, q, py_ok R _ _ _ _ h1 x1, py_ok R _ _ _ _ h2 x2, hs.1, hs.2, Step.refl R, res_bl⟩
      · cases hb
    · cases hb
  · cases eg
theorem neC_ok (hu : X.A.units + 64 < cLine) : OpD X (compareOp .NotEq) (eqC true) := by
  refine OpD.of (op_neD hu) fun H μ S H0 d e v w res R x1 x2 eg => ?_
  unfold eqC at eg
  split at eg
  · rename_i b hb
    cases eg
    unfold eqD at hb
    split at hb
    · rename_i p q h1 h2
      split at hb
      · rename_i hs
        cases hb
        exact ⟨p, q, py_ok R _ _ _ _ h1 x1, py_ok R _ _ _ _ h2 x2, hs.1, hs.2, Step.refl R, res_bl⟩
      · cases hb
    · cases hb
  · cases eg
theorem intB_ok {f : Value → Value → Sem Value} {p : Int → Int → Bool} (ho : OpR X f (rI0 fun i j => .bl (p i j))) : OpD X f (intB p) := by
  refine OpD.of ho fun H μ S H0 d e v w res R x1 x2 eg => ?_
  unfold intB at eg
  split at eg
  · rename_i i j
    cases eg
    exact ⟨i, j, rep_int x1, rep_int x2, Step.refl R, res_bl⟩
  · cases eg
theorem ltD_ok (hu : X.A.units + 64 < cLine) : OpD X (compareOp .Lt) ltD := by
  intro pins s σ H μ S H0 d e v w u1 u2 res I R x1 x2 r1 r2 eg
  unfold ltD at eg
  split at eg
  · cases eg
    cases rep_int x1; cases rep_int x2
    exact thn (op_lt pins s σ H _ _ u1 u2 (fun v' H' => Step X.K X.mg μ H μ S H' ∧ ResOk X.K X.mg μ H H' _ v') I r1 r2 ⟨_, _, rfl, rfl, Step.refl R, res_bl⟩) fun u s' ⟨v', H', I', r', st, x⟩ => ⟨v', H', I', r', st, x⟩
  · cases eg
    cases rep_str x1; cases rep_str x2
    exact thn (op_lt_str pins s σ H _ _ u1 u2 (fun v' H' => Step X.K X.mg μ H μ S H' ∧ ResOk X.K X.mg μ H H' _ v') I r1 r2 ⟨_, _, rfl, rfl, Step.refl R, res_bl⟩) fun u s' ⟨v', H', I', r', st, x⟩ => ⟨v', H', I', r', st, x⟩
  · split at eg
    · rename_i ns ms h1 h2
      cases eg
      obtain ⟨a, vs, rfl, q1, l1⟩ := seqT_ok x1 rfl
      obtain ⟨b, us, rfl, q2, l2⟩ := seqT_ok x2 rfl
      cases intsD_ok h1 l1; cases intsD_ok h2 l2
      exact thn (op_ltT (by omega) pins s σ H _ _ u1 u2 (fun v' H' => Step X.K X.mg μ H μ S H' ∧ ResOk X.K X.mg μ H H' _ v') I r1 r2 ⟨_, _, _, _, rfl, rfl, q1, q2, Step.refl R, res_bl⟩) fun u s' ⟨v', H', I', r', st, x⟩ => ⟨v', H', I', r', st, x⟩
    · cases eg
  · cases eg
theorem inD_ok : OpD X (compareOp .In) (inD false) := by
  intro pins s σ H μ S H0 d e v w u1 u2 res I R x1 x2 r1 r2 eg
  unfold inD at eg
  split at eg
  · cases eg
    cases rep_str x1; cases rep_str x2
    exact thn (op_in_str pins s σ H _ _ u1 u2 (fun v' H' => Step X.K X.mg μ H μ S H' ∧ ResOk X.K X.mg μ H H' _ v') I r1 r2 ⟨_, _, rfl, rfl, Step.refl R, res_bl⟩) fun u s' ⟨v', H', I', r', st, x⟩ => ⟨v', H', I', r', st, x⟩
  · split at eg
    · rename_i x ds h1 h2
      split at eg
      · rename_i vs h3
        cases eg
        obtain ⟨rfl, f1⟩ := flatD_ok h1 x1
        obtain ⟨a, us, rfl, q, l⟩ := seqA_ok R x2 h2
        obtain ⟨rfl, f2⟩ := flatL_ok h3 l
        exact thn (op_in_seq pins s σ H _ _ u1 u2 (fun v' H' => Step X.K X.mg μ H μ S H' ∧ ResOk X.K X.mg μ H H' _ v') I r1 r2 ⟨_, _, rfl, q, f1, f2, Step.refl R, res_bl⟩) fun u s' ⟨v', H', I', r', st, x⟩ => ⟨v', H', I', r', st, x⟩
      · cases eg
    · cases eg
theorem notInD_ok : OpD X (compareOp .NotIn) (inD true) := by
  intro pins s σ H μ S H0 d e v w u1 u2 res I R x1 x2 r1 r2 eg
  unfold inD at eg
  split at eg
  · cases eg
    cases rep_str x1; cases rep_str x2
    exact thn (op_notIn_str pins s σ H _ _ u1 u2 (fun v' H' => Step X.K X.mg μ H μ S H' ∧ ResOk X.K X.mg μ H H' _ v') I r1 r2 ⟨_, _, rfl, rfl, Step.refl R, res_bl⟩) fun u s' ⟨v', H', I', r', st, x⟩ => ⟨v', H', I', r', st, x⟩
  · split at eg
    · rename_i x ds h1 h2
      split at eg
      · rename_i vs h3
        cases eg
        obtain ⟨rfl, f1⟩ := flatD_ok h1 x1
        obtain ⟨a, us, rfl, q, l⟩ := seqA_ok R x2 h2
        obtain ⟨rfl, f2⟩ := flatL_ok h3 l
        exact thn (op_notIn_seq pins s σ H _ _ u1 u2 (fun v' H' => Step X.K X.mg μ H μ S H' ∧ ResOk X.K X.mg μ H H' _ v') I r1 r2 ⟨_, _, rfl, q, f1, f2, Step.refl R, res_bl⟩) fun u s' ⟨v', H', I', r', st, x⟩ => ⟨v', H', I', r', st, x⟩
      · cases eg
    · cases eg
/-- never none, never a truth -/
theorem res_ref {K : PySem.W.Frag} {mg : Str → Option Value} {μ : List Addr} {H0 H : Hp} {d : D} {v : V} (x : ResOk K mg μ H0 H d v) :
    (d = .non ∧ v = .non) ∨ (∃ b, d = .bl b ∧ v = .bl b) ∨ (d ≠ .non ∧ (∀ b, d ≠ .bl b) ∧ v ≠ .non ∧ ∀ b, v ≠ .bl b) := by
  cases d with
  | non => exact .inl ⟨rfl, rep_non x⟩
  | bl b => exact .inr (.inl ⟨b, rfl, rep_bl x⟩)
  | int i => cases rep_int x; exact .inr (.inr ⟨(fun z => nomatch z), (fun _ z => nomatch z), (fun z => nomatch z), (fun _ z => nomatch z)⟩)
  | str i => cases rep_str x; exact .inr (.inr ⟨(fun z => nomatch z), (fun _ z => nomatch z), (fun z => nomatch z), (fun _ z => nomatch z)⟩)
  | tup ds => obtain ⟨a, _, rfl, _⟩ := seqT_ok x rfl; exact .inr (.inr ⟨(fun z => nomatch z), (fun _ z => nomatch z), (fun z => nomatch z), (fun _ z => nomatch z)⟩)
  | ptup ds => have x := x.rep rfl; unfold Rep at x; obtain ⟨a, _, rfl, _⟩ := x; exact .inr (.inr ⟨(fun z => nomatch z), (fun _ z => nomatch z), (fun z => nomatch z), (fun _ z => nomatch z)⟩)
  | ref n =>
    have x := x.rep rfl
    unfold Rep at x
    obtain ⟨a, _, rfl⟩ := x
    exact .inr (.inr ⟨(fun z => nomatch z), (fun _ z => nomatch z), (fun z => nomatch z), (fun _ z => nomatch z)⟩)
  | fro ds =>
    have x := x.rep rfl
    unfold Rep at x
    obtain ⟨a, _, rfl, _⟩ := x
    exact .inr (.inr ⟨(fun z => nomatch z), (fun _ z => nomatch z), (fun z => nomatch z), (fun _ z => nomatch z)⟩)
  | lst _ => unfold ResOk at x; obtain ⟨a, rfl, _⟩ := x; exact .inr (.inr ⟨(fun z => nomatch z), (fun _ z => nomatch z), (fun z => nomatch z), (fun _ z => nomatch z)⟩)
  | obj _ _ _ => unfold ResOk at x; obtain ⟨a, rfl, _⟩ := x; exact .inr (.inr ⟨(fun z => nomatch z), (fun _ z => nomatch z), (fun z => nomatch z), (fun _ z => nomatch z)⟩)
  | dk _ _ => unfold ResOk at x; obtain ⟨a, rfl, _⟩ := x; exact .inr (.inr ⟨(fun z => nomatch z), (fun _ z => nomatch z), (fun z => nomatch z), (fun _ z => nomatch z)⟩)
  | dt _ _ => unfold ResOk at x; obtain ⟨a, rfl, _⟩ := x; exact .inr (.inr ⟨(fun z => nomatch z), (fun _ z => nomatch z), (fun z => nomatch z), (fun _ z => nomatch z)⟩)
  | exn _ _ _ _ =>
    have x := x.rep rfl
    unfold Rep at x
    obtain ⟨rfl, _⟩ := x
    exact .inr (.inr ⟨(fun z => nomatch z), (fun _ z => nomatch z), (fun z => nomatch z), (fun _ z => nomatch z)⟩)
  | fn _ _ =>
    have x := x.rep rfl
    unfold Rep at x
    obtain ⟨rfl, _⟩ := x
    exact .inr (.inr ⟨(fun z => nomatch z), (fun _ z => nomatch z), (fun z => nomatch z), (fun _ z => nomatch z)⟩)
theorem isD_non {d : D} {neg : Bool} {S : Store} (h : d ≠ .non) : isD neg d .non S = some (.bl neg) := by
  unfold isD; cases d <;> first | rfl | exact absurd rfl h
theorem isD_bl {d : D} {neg b : Bool} {S : Store} (h : ∀ c, d ≠ .bl c) : isD neg d (.bl b) S = some (.bl neg) := by
  unfold isD; cases d <;> first | rfl | exact absurd rfl (h _)
theorem isD_ok : OpD X (compareOp .Is) (isD false) := by
  intro pins s σ H μ S H0 d e v w u1 u2 res I R x1 x2 r1 r2 eg
  rcases res_ref x2 with ⟨rfl, rfl⟩ | ⟨b, rfl, rfl⟩ | ⟨n1, n2, _⟩
  · cases r2
    have key : isD false d .non S = some (.bl (decide (v = .non))) := by
      rcases res_ref x1 with ⟨rfl, rfl⟩ | ⟨b, rfl, rfl⟩ | ⟨m1, m2, m3, m4⟩
      · rfl
      · rfl
      · rw [isD_non m1, decide_eq_false m3]
    rw [key] at eg; cases eg
    refine is_none_gen ?_
    rw [r1.none_iff]
    exact fin_bool (H0 := H) I R
  · cases r2
    have key : isD false d (.bl b) S = some (.bl (decide (v = .bl b))) := by
      rcases res_ref x1 with ⟨rfl, rfl⟩ | ⟨c, rfl, rfl⟩ | ⟨m1, m2, m3, m4⟩
      · rfl
      · show some (D.bl (c == b)) = _
        rw [dec_bl]
      · rw [isD_bl m2, decide_eq_false (m4 b)]
    rw [key] at eg; cases eg
    exact is_bool_gen r1 (fin_bool (H0 := H) I R)
  · unfold isD at eg
    split at eg
    · exact absurd rfl n1
    · exact absurd rfl (n2 _)
    · cases eg
theorem isNotD_ok : OpD X (compareOp .IsNot) (isD true) := by
  intro pins s σ H μ S H0 d e v w u1 u2 res I R x1 x2 r1 r2 eg
  rcases res_ref x2 with ⟨rfl, rfl⟩ | ⟨b, rfl, rfl⟩ | ⟨n1, n2, _⟩
  · cases r2
    have key : isD true d .non S = some (.bl (!decide (v = .non))) := by
      rcases res_ref x1 with ⟨rfl, rfl⟩ | ⟨b, rfl, rfl⟩ | ⟨m1, m2, m3, m4⟩
      · rfl
      · rfl
      · rw [isD_non m1, decide_eq_false m3]; rfl
    rw [key] at eg; cases eg
    refine isnot_none_gen ?_
    rw [r1.none_iff]
    exact fin_bool (H0 := H) I R
  · cases r2
    have key : isD true d (.bl b) S = some (.bl (!decide (v = .bl b))) := by
      rcases res_ref x1 with ⟨rfl, rfl⟩ | ⟨c, rfl, rfl⟩ | ⟨m1, m2, m3, m4⟩
      · rfl
      · show some (D.bl (!(c == b))) = _
        rw [dec_bl]
      · rw [isD_bl m2, decide_eq_false (m4 b)]; rfl
    rw [key] at eg; cases eg
    exact isnot_bool_gen r1 (fin_bool (H0 := H) I R)
  · unfold isD at eg
    split at eg
    · exact absurd rfl n1
    · exact absurd rfl (n2 _)
    · cases eg
theorem cmpD_ok (hu : X.A.units + 64 < cLine) : ∀ op : CmpOp, OpD X (compareOp op) (cmpD op)
  | .Eq => eqC_ok hu
  | .NotEq => neC_ok hu
  | .Lt => ltD_ok hu
  | .LtE => intB_ok op_le
  | .Gt => intB_ok op_gt
  | .GtE => intB_ok op_ge
  | .Is => isD_ok
  | .IsNot => isNotD_ok
  | .In => inD_ok
  | .NotIn => notInD_ok
theorem ev_cmp {a b : Expr} {op : CmpOp} {pos : Pos} {ma mb : M D} (hu : X.A.units + 64 < cLine) (ha : EvE X W a ma) (hb : EvE X W b mb) (h1 : behindInMarks op b = false) : EvE X W (.Compare a [op] [b] pos) (mBin (cmpD op) ma mb) :=
  ⟨fun pins s σ H μ S ρ I R E F => wpAny_Compare1 (bin_run ha hb (cmpD_ok hu op) I R E F) h1⟩
end
end Ev
/-! Ev4: tests, truths, subscripts, slices, argument lists, displays. -/
namespace Ev
open PySem PySem.Spec PyProof.Rows L2
variable {X : Cx} {W : WX}

/-! ### readings of parts -/
theorem tm1 {β : Type} {ma : M D} {f : D → Store → Out β} {σ : L2.St} {H : Hp} {μ : List Addr} {S : Store} {ρ : Env'} (R : Rel X.K X.mg μ S H) (E : EnvOk X.K μ H ρ σ) (F : Fine X.K X.mg W μ H σ ((ma ρ S).bind f)) {Q' : V → Hp → Prop}
    (q : ∀ d S1 v μ1 H1, ma ρ S = .ok d S1 → Step X.K X.mg μ H μ1 S1 H1 → ResOk X.K X.mg μ1 H H1 d v → Rel X.K X.mg μ1 S1 H1 → EnvOk X.K μ1 H1 ρ σ → Fine X.K X.mg W μ1 H1 σ (f d S1) → Q' v H1) : TM X W ma σ H Q' :=
  ⟨μ, S, ρ, R, E, F.left, fun d S1 v μ1 H1 e st x => q d S1 v μ1 H1 e st x st.rel (E.step R st) (F.right R st e)⟩
theorem tmt1 {β : Type} {ma : M Bool} {f : Bool → Store → Out β} {σ : L2.St} {H : Hp} {μ : List Addr} {S : Store} {ρ : Env'} (R : Rel X.K X.mg μ S H) (E : EnvOk X.K μ H ρ σ) (F : Fine X.K X.mg W μ H σ ((ma ρ S).bind f)) {Q' : Bool → Hp → Prop}
    (q : ∀ d S1 μ1 H1, ma ρ S = .ok d S1 → Step X.K X.mg μ H μ1 S1 H1 → Rel X.K X.mg μ1 S1 H1 → EnvOk X.K μ1 H1 ρ σ → Fine X.K X.mg W μ1 H1 σ (f d S1) → Q' d H1) : TMt X W ma σ H Q' :=
  ⟨μ, S, ρ, R, E, F.left, fun d S1 μ1 H1 e st => q d S1 μ1 H1 e st st.rel (E.step R st) (F.right R st e)⟩
theorem tm2 {g : D → D → Store → Option D} {ma mb : M D} {σ : L2.St} {H : Hp} {μ : List Addr} {S : Store} {ρ : Env'} (R : Rel X.K X.mg μ S H) (E : EnvOk X.K μ H ρ σ) (F : Fine X.K X.mg W μ H σ (mBin g ma mb ρ S)) {Q' : V → V → Hp → Prop}
    (q : ∀ d1 d2 S2 v1 v2 μ2 H2 r, mBin g ma mb ρ S = .ok r S2 → Step X.K X.mg μ H μ2 S2 H2 → ResOk X.K X.mg μ2 H H2 d1 v1 → ResOk X.K X.mg μ2 H H2 d2 v2 → g d1 d2 S2 = some r → Q' v1 v2 H2) :
    TM X W ma σ H fun x H1 => TM X W mb σ H1 fun y H2 => Q' x y H2 := by
  unfold mBin at F
  refine tm1 R E F fun d1 S1 v1 μ1 H1 e1 st1 x1 R1 E1 F1 => ?_
  refine tm1 R1 E1 F1 fun d2 S2 v2 μ2 H2 e2 st2 x2 R2 E2 F2 => ?_
  obtain ⟨r, er⟩ := fine_of F2
  refine q d1 d2 S2 v1 v2 μ2 H2 r ?_ (st1.trans R st2) (x1.step R1 st2) (x2.back R st1) er
  unfold mBin
  rw [e1, bind_ok, e2, bind_ok, er]; rfl

/-! ### names and constants -/
def mVar (i : Nat) : M D := fun ρ S => match ρ[i]? with
  | some (some d) => .ok d S
  | _ => .fail
theorem ev_var {i : Nat} {x : Str} {pos : Pos} (hN : X.N[i]? = some x) (hv : Vis X.env.scope x) (hd : (x == ("__debug__" : Str)) = false) (hcd : (x == ("__classdict__" : Str)) = false) : EvE X W (.Name x pos) (mVar i) := by
  refine EvE.of_pe (pe_var hN hv hd hcd) fun σ H μ S ρ R E F => ?_
  unfold mVar at F ⊢
  split at F
  · rename_i d hd
    obtain ⟨v, e, r⟩ := E.at_ i d hd
    exact ⟨v, e, d, S, μ, rfl, Step.refl R, ResOk.plain r⟩
  · exact F.elim
def mLit (d : D) : M D := fun _ S => .ok d S
theorem ev_int {i : Int} {j pos} : EvE X W (.Constant (.int i) j pos) (mLit (.int i)) := EvE.of_pe pe_int fun σ H μ S ρ R E F => ⟨_, S, μ, rfl, Step.refl R, res_int⟩
theorem ev_bl {i : Bool} {j pos} : EvE X W (.Constant (.bool i) j pos) (mLit (.bl i)) := EvE.of_pe pe_bl fun σ H μ S ρ R E F => ⟨_, S, μ, rfl, Step.refl R, res_bl⟩
theorem ev_non {j pos} : EvE X W (.Constant .none j pos) (mLit .non) := EvE.of_pe pe_non fun σ H μ S ρ R E F => ⟨_, S, μ, rfl, Step.refl R, res_non⟩
theorem ev_str {i : Str} {j pos} : EvE X W (.Constant (.str i) j pos) (mLit (.str i)) := EvE.of_pe pe_str fun σ H μ S ρ R E F => ⟨_, S, μ, rfl, Step.refl R, res_str⟩
/-! ### unary -/
def mNeg (ma : M D) : M D := fun ρ S => (ma ρ S).bind fun d S1 => match d with
  | .int i => .ok (.int (-i)) S1
  | _ => .fail
theorem ev_neg {a : Expr} {ma : M D} {pos : Pos} (ha : EvE X W a ma) : EvE X W (.UnaryOp .USub a pos) (mNeg ma) := by
  refine EvE.of_pe (pe_un un_neg ha.pe) fun σ H μ S ρ R E F => ?_
  unfold mNeg at F ⊢
  refine tm1 R E F fun d S1 v μ1 H1 e st x R1 E1 F1 => ?_
  split at F1
  · exact ⟨_, rep_int x, _, S1, μ1, by rw [e]; rfl, st, res_int⟩
  · exact F1.elim

/-! ### truth -/
def truD (S : Store) (d : D) : Option Bool := match d with
  | .non => some false
  | .bl b => some b
  | .int i => some (i != 0)
  | .str x => if x.length ≤ sizeLine then some ((x.length : Int) != 0) else none
  | d => match seqA S d with
    | some ds => some (!ds.isEmpty)
    | none => none
theorem truD_ok {K : PySem.W.Frag} {mg : Str → Option Value} {μ : List Addr} {H0 H : Hp} {S : Store} {d : D} {v : V} {k : Bool} (R : Rel K mg μ S H) (x : ResOk K mg μ H0 H d v) (h : truD S d = some k) : TruV K v H k := by
  have gen : ∀ ds, seqA S d = some ds → k = !ds.isEmpty → TruV K v H k := fun ds h1 h2 => by
    obtain ⟨a, vs, rfl, q, r⟩ := seqA_ok R x h1
    have e : ds.isEmpty = vs.isEmpty := by
      have := r.length
      cases ds <;> cases vs <;> simp at this ⊢
    rw [e] at h2
    rcases q with q | q
    · exact .inl ⟨vs, q, h2⟩
    · exact .inr (.inl ⟨vs, q, h2⟩)
  unfold truD at h
  split at h
  · cases h; cases rep_non x; rfl
  · cases h; cases rep_bl x; rfl
  · cases h; cases rep_int x; rfl
  · split at h
    · cases h; cases rep_str x; exact ⟨by assumption, rfl⟩
    · cases h
  · split at h
    · rename_i ds h1
      cases h
      exact gen ds h1 rfl
    · cases h
def mTru (m : M D) : M Bool := fun ρ S => (m ρ S).bind fun d S1 => Out.of (truD S1 d) S1
/-- what is tested by its value -/
def plainTest : Expr → Bool
  | .UnaryOp .Not _ _ => false
  | .BoolOp _ _ _ => false
  | .IfExp _ _ _ _ => false
  | .Compare _ _ _ _ => false
  | _ => true
theorem plainTest_ok {e : Expr} (h : plainTest e = true) {env : Env} (whole : Sem Value) : isTrue e env whole = (do let v ← whole; standAt e.pos; holding [v] (truthy v)) := by
  cases e with
  | UnaryOp op x p => cases op <;> first | rfl | cases h
  | BoolOp _ _ _ => cases h
  | IfExp _ _ _ _ => cases h
  | Compare _ _ _ _ => cases h
  | _ => rfl
theorem evt_plain {e : Expr} {m : M D} (he : EvE X W e m) (hp : plainTest e = true) : EvT X W e (mTru m) := by
  refine EvT.of_pt (pt_truth he.pe (plainTest_ok hp)) fun σ H μ S ρ R E F => ?_
  unfold mTru at F ⊢
  refine tm1 R E F fun d S1 v μ1 H1 e1 st x R1 E1 F1 => ?_
  obtain ⟨k, ek⟩ := fine_of F1
  exact ⟨k, truD_ok R1 x ek, S1, μ1, by rw [e1, bind_ok, ek]; rfl, st⟩
theorem evt_cmp {a b : Expr} {op : CmpOp} {pos : Pos} {ma mb : M D} (hu : X.A.units + 64 < cLine) (ha : EvE X W a ma) (hb : EvE X W b mb) (h1 : behindInMarks op b = false) : EvT X W (.Compare a [op] [b] pos) (mTru (mBin (cmpD op) ma mb)) := by
  refine ⟨fun pins s σ H μ S ρ I R E F => ?_⟩
  refine wpAny_isTrue_Compare1 (thn (bin_run ha hb (cmpD_ok hu op) I R E F.left) fun v s1 h1 => thn h1 fun u s2 h2 => thn h2 fun c s3 ⟨d, S', w, μ', H', e, I', r, st, x⟩ => ?_) h1
  have F1 : Fine X.K X.mg W μ' H' σ (Out.of (truD S' d) S') := Fine.right (f := fun d S1 => Out.of (truD S1 d) S1) R st F e
  obtain ⟨k, ek⟩ := fine_of F1
  refine thn (tru_ok pins s3 σ H' w c (fun b H2 => b = k ∧ H2 = H') I' r ⟨k, truD_ok st.rel x ek, rfl, rfl⟩) fun b s4 ⟨H2, I2, e1, e2⟩ => ?_
  subst e1; subst e2
  exact ⟨S', μ', H2, by unfold mTru; rw [e, bind_ok, ek]; rfl, I2, st⟩
def mNotT (m : M Bool) : M Bool := fun ρ S => (m ρ S).bind fun b S1 => .ok (!b) S1
theorem evt_not {a : Expr} {m : M Bool} {pos : Pos} (ha : EvT X W a m) : EvT X W (.UnaryOp .Not a pos) (mNotT m) := by
  refine EvT.of_pt (pt_not ha.pt) fun σ H μ S ρ R E F => ?_
  unfold mNotT at F ⊢
  exact tmt1 R E F fun b S1 μ1 H1 e st R1 E1 F1 => ⟨S1, μ1, by rw [e]; rfl, st⟩
/-- not, as a value -/
def mNotV (m : M D) : M D := fun ρ S => (m ρ S).bind fun d S1 => match truD S1 d with
  | some b => .ok (.bl (!b)) S1
  | none => .fail
theorem ev_not {a : Expr} {m : M D} {pos : Pos} (ha : EvE X W a m) : EvE X W (.UnaryOp .Not a pos) (mNotV m) := by
  refine EvE.of_pe (pe_notT ha.pe) fun σ H μ S ρ R E F => ?_
  unfold mNotV at F ⊢
  refine tm1 R E F fun d S1 v μ1 H1 e st x R1 E1 F1 => ?_
  split at F1
  · rename_i b hb
    exact ⟨b, truD_ok R1 x hb, _, S1, μ1, by rw [e, bind_ok]; simp only [hb], st, res_bl⟩
  · exact F1.elim
def mIte {α : Type} (c : M Bool) (a b : M α) : M α := fun ρ S => (c ρ S).bind fun k S1 => if k = true then a ρ S1 else b ρ S1
/-! ### and, or: tests, one after another -/
/-- the tests that are left of and (true), or (false) -/
structure EvTs (X : Cx) (W : WX) (op : BoolOp) (es : List Expr) (m : M Bool) : Prop where
  run : ∀ (pos : Pos) (whole : Sem Value) (pins : List (Addr × Obj)) (s : Shared) (σ : L2.St) (H : Hp) (μ : List Addr) (S : Store) (ρ : Env'), Inv X pins σ H s → Rel X.K X.mg μ S H → EnvOk X.K μ H ρ σ → Fine X.K X.mg W μ H σ (m ρ S) →
    wpAny (model X.prog X.w) X.A (isTrue (.BoolOp op es pos) X.env whole) (fun b s' => ∃ S' μ' H', m ρ S = .ok b S' ∧ Inv X pins σ H' s' ∧ Step X.K X.mg μ H μ' S' H') X.xe s
def mEndT (b : Bool) : M Bool := fun _ S => .ok b S
def mAndT (a b : M Bool) : M Bool := fun ρ S => (a ρ S).bind fun k S1 => if k = true then b ρ S1 else .ok false S1
def mOrT (a b : M Bool) : M Bool := fun ρ S => (a ρ S).bind fun k S1 => if k = true then .ok true S1 else b ρ S1
theorem evts_and_nil : EvTs X W .And [] (mEndT true) := ⟨fun pos wh pins s σ H μ S ρ I R E F => isTrue_and_nil ⟨S, μ, H, rfl, I, Step.refl R⟩⟩
theorem evts_or_nil : EvTs X W .Or [] (mEndT false) := ⟨fun pos wh pins s σ H μ S ρ I R E F => isTrue_or_nil ⟨S, μ, H, rfl, I, Step.refl R⟩⟩
theorem evts_and {a : Expr} {es : List Expr} {ma mb : M Bool} (ha : EvT X W a ma) (hb : EvTs X W .And es mb) : EvTs X W .And (a :: es) (mAndT ma mb) := by
  refine ⟨fun pos wh pins s σ H μ S ρ I R E F => ?_⟩
  unfold mAndT at F ⊢
  refine isTrue_and (thn (ha.run pins s σ H μ S ρ I R E F.left) fun c s1 ⟨S1, μ1, H1, e, I1, st⟩ => ?_)
  have F1 := Fine.right R st F e
  cases c with
  | true =>
    rw [if_pos rfl] at F1
    refine thn (hb.run pos wh pins s1 σ H1 μ1 S1 ρ I1 st.rel (E.step R st) F1) fun b s2 ⟨S2, μ2, H2, e2, I2, st2⟩ => ?_
    exact ⟨S2, μ2, H2, by rw [e, bind_ok, if_pos rfl, e2], I2, st.trans R st2⟩
  | false => exact ⟨S1, μ1, H1, by rw [e, bind_ok, if_neg Bool.false_ne_true], I1, st⟩
theorem evts_or {a : Expr} {es : List Expr} {ma mb : M Bool} (ha : EvT X W a ma) (hb : EvTs X W .Or es mb) : EvTs X W .Or (a :: es) (mOrT ma mb) := by
  refine ⟨fun pos wh pins s σ H μ S ρ I R E F => ?_⟩
  unfold mOrT at F ⊢
  refine isTrue_or (thn (ha.run pins s σ H μ S ρ I R E F.left) fun c s1 ⟨S1, μ1, H1, e, I1, st⟩ => ?_)
  have F1 := Fine.right R st F e
  cases c with
  | true => exact ⟨S1, μ1, H1, by rw [e, bind_ok, if_pos rfl], I1, st⟩
  | false =>
    rw [if_neg Bool.false_ne_true] at F1
    refine thn (hb.run pos wh pins s1 σ H1 μ1 S1 ρ I1 st.rel (E.step R st) F1) fun b s2 ⟨S2, μ2, H2, e2, I2, st2⟩ => ?_
    exact ⟨S2, μ2, H2, by rw [e, bind_ok, if_neg Bool.false_ne_true, e2], I2, st.trans R st2⟩
theorem EvTs.t {op : BoolOp} {es : List Expr} {m : M Bool} {pos : Pos} (h : EvTs X W op es m) : EvT X W (.BoolOp op es pos) m := ⟨fun pins s σ H μ S ρ I R E F => h.run pos _ pins s σ H μ S ρ I R E F⟩
/-! as values: all but the last are truths -/
def mAndV (a b : M D) : M D := fun ρ S => (a ρ S).bind fun d S1 => match d with
  | .bl true => b ρ S1
  | .bl false => .ok (.bl false) S1
  | _ => .fail
def mOrV (a b : M D) : M D := fun ρ S => (a ρ S).bind fun d S1 => match d with
  | .bl true => .ok (.bl true) S1
  | .bl false => b ρ S1
  | _ => .fail
theorem ev_one {a : Expr} {op : BoolOp} {m : M D} {pos : Pos} (ha : EvE X W a m) : EvE X W (.BoolOp op [a] pos) m := ⟨fun pins s σ H μ S ρ I R E F => BoolOp_one (ha.run pins s σ H μ S ρ I R E F)⟩
theorem ev_and {a b : Expr} {rest : List Expr} {ma mb : M D} {pos : Pos} (ha : EvE X W a ma) (hb : EvE X W (.BoolOp .And (b :: rest) pos) mb) : EvE X W (.BoolOp .And (a :: b :: rest) pos) (mAndV ma mb) := by
  refine EvE.of_pe (pe_and ha.pe hb.pe) fun σ H μ S ρ R E F => ?_
  unfold mAndV at F ⊢
  refine tm1 R E F fun d S1 v μ1 H1 e st x R1 E1 F1 => ?_
  split at F1
  · refine ⟨true, rep_bl x, ?_⟩
    rw [if_pos rfl]
    refine ⟨μ1, S1, ρ, R1, E1, F1, fun d S' v μ' H' e2 st2 x2 => ⟨d, S', μ', ?_, st.trans R st2, x2.back R st⟩⟩
    rw [e, bind_ok]; exact e2
  · refine ⟨false, rep_bl x, ?_⟩
    rw [if_neg Bool.false_ne_true]
    exact ⟨_, S1, μ1, by rw [e]; rfl, st, res_bl⟩
  · exact F1.elim
theorem ev_or {a b : Expr} {rest : List Expr} {ma mb : M D} {pos : Pos} (ha : EvE X W a ma) (hb : EvE X W (.BoolOp .Or (b :: rest) pos) mb) : EvE X W (.BoolOp .Or (a :: b :: rest) pos) (mOrV ma mb) := by
  refine EvE.of_pe (pe_or ha.pe hb.pe) fun σ H μ S ρ R E F => ?_
  unfold mOrV at F ⊢
  refine tm1 R E F fun d S1 v μ1 H1 e st x R1 E1 F1 => ?_
  split at F1
  · refine ⟨true, rep_bl x, ?_⟩
    rw [if_pos rfl]
    exact ⟨_, S1, μ1, by rw [e]; rfl, st, res_bl⟩
  · refine ⟨false, rep_bl x, ?_⟩
    rw [if_neg Bool.false_ne_true]
    refine ⟨μ1, S1, ρ, R1, E1, F1, fun d S' v μ' H' e2 st2 x2 => ⟨d, S', μ', ?_, st.trans R st2, x2.back R st⟩⟩
    rw [e, bind_ok]; exact e2
  · exact F1.elim

/-! ### subscripts -/
theorem RepL.atI {K : PySem.W.Frag} {μ : List Addr} {H : Hp} {ds : List D} {vs : List V} {i : Int} {d : D} (r : RepL K μ H ds vs) (h : L2.atI ds i = some d) : ∃ v, L2.atI vs i = some v ∧ Rep K μ H d v := by
  unfold L2.atI at h ⊢
  rw [r.length] at h
  cases q : ixN vs.length i with
  | none => rw [q] at h; cases h
  | some j =>
    rw [q] at h
    obtain ⟨v, e, r'⟩ := r.get (i := j) (d := d) h
    exact ⟨v, e, r'⟩
def idxD (d e : D) (S : Store) : Option D := match d, e with
  | .str z, .int i => if z.length ≤ sizeLine then (atI z.cps.toList i).map fun c => .str ⟨#[c]⟩ else none
  | d, .int i => match seqA S d with
    | some ds => atI ds i
    | none => none
  | _, _ => none
def notSlice : Expr → Bool
  | .Slice _ _ _ _ => false
  | _ => true
theorem plainIx_of {b : Expr} (h : notSlice b = true) : PlainIx b := fun o i => by
  cases b <;> first | rfl | cases h
theorem ev_idx {a b : Expr} {ma mb : M D} {pos : Pos} (ha : EvE X W a ma) (hb : EvE X W b mb) (hs : notSlice b = true) : EvE X W (.Subscript a b pos) (mBin idxD ma mb) := by
  refine EvE.of_pe (pe_ix ix_seq ha.pe hb.pe (plainIx_of hs)) fun σ H μ S ρ R E F => ?_
  refine tm2 R E F fun d1 d2 S2 v1 v2 μ2 H2 r e st x1 x2 hr => ?_
  have R2 := st.rel
  have fin : ∀ {v : V}, ResOk X.K X.mg μ2 H H2 r v → ∃ d S' μ', mBin idxD ma mb ρ S = .ok d S' ∧ Step X.K X.mg μ H μ' S' H2 ∧ ResOk X.K X.mg μ' H H2 d v := fun x => ⟨r, S2, μ2, e, st, x⟩
  unfold idxD at hr
  split at hr
  · rename_i z i
    split at hr
    · rename_i hz
      cases q : atI z.cps.toList i with
      | none => rw [q] at hr; cases hr
      | some c =>
        rw [q] at hr
        cases hr
        exact .inr (.inr ⟨z, i, c, rep_str x1, rep_int x2, hz, q, fin res_str⟩)
    · cases hr
  · rename_i i _
    split at hr
    · rename_i ds h1
      obtain ⟨a, vs, e1, q, l⟩ := seqA_ok R2 x1 h1
      obtain ⟨v, ev, rv⟩ := l.atI hr
      rcases q with q | q
      · exact .inl ⟨a, vs, i, v, e1, rep_int x2, q, ev, fin (ResOk.plain rv)⟩
      · exact .inr (.inl ⟨a, vs, i, v, e1, rep_int x2, q, ev, fin (ResOk.plain rv)⟩)
    · cases hr
  · cases hr

/-! ### slices -/
def cutL {α : Type} (xs : List α) (lo hi : Option Int) : List α := (xs.drop (HT.sIx xs.length 0 lo)).take (HT.sIx xs.length xs.length hi - HT.sIx xs.length 0 lo)
theorem RepL.cutL {K : PySem.W.Frag} {μ : List Addr} {H : Hp} {ds : List D} {vs : List V} {lo hi : Option Int} (r : RepL K μ H ds vs) : RepL K μ H (Ev.cutL ds lo hi) (cutV vs lo hi) := by
  unfold Ev.cutL cutV
  rw [r.length]
  exact (r.drop _).take _
def cutD (d : D) (lo hi : Option Int) (S : Store) : Option D := match d with
  | .str z => if z.length ≤ sizeLine then some (.str (cutS z lo hi)) else none
  | .tup ds => some (.tup (cutL ds lo hi))
  | d => match seqL S d with
    | some ds => some (.lst (cutL ds lo hi))
    | none => none
structure EvO (X : Cx) (W : WX) (e : Option Expr) (m : M (Option Int)) : Prop where
  run : ∀ (pins : List (Addr × Obj)) (s : Shared) (σ : L2.St) (H : Hp) (μ : List Addr) (S : Store) (ρ : Env'), Inv X pins σ H s → Rel X.K X.mg μ S H → EnvOk X.K μ H ρ σ → Fine X.K X.mg W μ H σ (m ρ S) →
    wpAny (model X.prog X.w) X.A (evalPart e X.env) (fun u s' => ∃ o S' μ' H', m ρ S = .ok o S' ∧ Inv X pins σ H' s' ∧ IsPart u o ∧ Step X.K X.mg μ H μ' S' H') X.xe s
def mNoPart : M (Option Int) := fun _ S => .ok none S
def mPart (m : M D) : M (Option Int) := fun ρ S => (m ρ S).bind fun d S1 => match d with
  | .int i => .ok (some i) S1
  | _ => .fail
theorem evo_none : EvO X W none mNoPart := by
  refine ⟨fun pins s σ H μ S ρ I R E F => ?_⟩
  rw [evalPart_none]
  exact wpAny_pure ⟨none, S, μ, H, rfl, I, .none, Step.refl R⟩
theorem evo_some {e : Expr} {m : M D} (h : EvE X W e m) : EvO X W (some e) (mPart m) := by
  refine ⟨fun pins s σ H μ S ρ I R E F => ?_⟩
  rw [evalPart_some]
  unfold mPart at F ⊢
  refine thn (h.run pins s σ H μ S ρ I R E F.left) fun u s1 ⟨d, S1, v, μ1, H1, e1, I1, r1, st, x⟩ => ?_
  have F1 := Fine.right R st F e1
  split at F1
  · rename_i i
    cases rep_int x
    obtain ⟨t, rfl⟩ := r1
    exact ⟨some i, S1, μ1, H1, by rw [e1]; rfl, I1, .int i t, st⟩
  · exact F1.elim
def TMo (X : Cx) (W : WX) (m : M (Option Int)) : TO := fun σ H Q => ∃ μ S ρ, Rel X.K X.mg μ S H ∧ EnvOk X.K μ H ρ σ ∧ Fine X.K X.mg W μ H σ (m ρ S) ∧
  ∀ b S' μ' H', m ρ S = .ok b S' → Step X.K X.mg μ H μ' S' H' → Q b H'
theorem EvO.po {e : Option Expr} {m : M (Option Int)} (h : EvO X W e m) : PO X e (TMo X W m) := by
  refine ⟨fun pins s σ H Q I ⟨μ, S, ρ, R, E, F, q⟩ => thn (h.run pins s σ H μ S ρ I R E F) fun b s' ⟨o, S', μ', H', e, I', p, st⟩ => ?_⟩
  exact ⟨o, H', I', p, q o S' μ' H' e st⟩
theorem tmo1 {β : Type} {ma : M (Option Int)} {f : Option Int → Store → Out β} {σ : L2.St} {H : Hp} {μ : List Addr} {S : Store} {ρ : Env'} (R : Rel X.K X.mg μ S H) (E : EnvOk X.K μ H ρ σ) (F : Fine X.K X.mg W μ H σ ((ma ρ S).bind f)) {Q' : Option Int → Hp → Prop}
    (q : ∀ d S1 μ1 H1, ma ρ S = .ok d S1 → Step X.K X.mg μ H μ1 S1 H1 → Rel X.K X.mg μ1 S1 H1 → EnvOk X.K μ1 H1 ρ σ → Fine X.K X.mg W μ1 H1 σ (f d S1) → Q' d H1) : TMo X W ma σ H Q' :=
  ⟨μ, S, ρ, R, E, F.left, fun d S1 μ1 H1 e st => q d S1 μ1 H1 e st st.rel (E.step R st) (F.right R st e)⟩
def mCut (ma : M D) (ml mh : M (Option Int)) : M D := fun ρ S => (ma ρ S).bind fun d S1 => (ml ρ S1).bind fun l S2 => (mh ρ S2).bind fun h S3 => Out.of (cutD d l h S3) S3
theorem ev_cut {a : Expr} {lo hi : Option Expr} {ma : M D} {ml mh : M (Option Int)} {p2 pos : Pos} (ha : EvE X W a ma) (hl : EvO X W lo ml) (hh : EvO X W hi mh) : EvE X W (.Subscript a (.Slice lo hi none p2) pos) (mCut ma ml mh) := by
  refine EvE.of_pe (pe_slice (sl_list.or (sl_tupA.or sl_str)) ha.pe hl.po hh.po) fun σ H μ S ρ R E F => ?_
  unfold mCut at F ⊢
  refine tm1 R E F fun d S1 v μ1 H1 e1 st1 x1 R1 E1 F1 => ?_
  refine tmo1 R1 E1 F1 fun l S2 μ2 H2 e2 st2 R2 E2 F2 => ?_
  refine tmo1 R2 E2 F2 fun h S3 μ3 H3 e3 st3 R3 E3 F3 => ?_
  obtain ⟨r, er⟩ := fine_of F3
  have st := (st1.trans R st2).trans R st3
  have x := (x1.step R1 st2).step R2 st3
  have fin : ∀ {v : V} {H' : Hp}, Step X.K X.mg μ3 H3 μ3 S3 H' → ResOk X.K X.mg μ3 H3 H' r v → ∃ d S' μ', ((ma ρ S).bind fun d S1 => (ml ρ S1).bind fun l S2 => (mh ρ S2).bind fun h S3 => Out.of (cutD d l h S3) S3) = .ok d S' ∧ Step X.K X.mg μ H μ' S' H' ∧ ResOk X.K X.mg μ' H H' d v :=
    fun st' x' => ⟨r, S3, μ3, by rw [e1, bind_ok, e2, bind_ok, e3, bind_ok, er]; rfl, st.trans R st', x'.back R st⟩
  unfold cutD at er
  split at er
  · rename_i z
    split at er
    · rename_i hz
      cases er
      exact .inr (.inr ⟨z, rep_str x, hz, fin (Step.refl R3) res_str⟩)
    · cases er
  · rename_i ds
    cases er
    obtain ⟨a, vs, rfl, q, l'⟩ := seqT_ok x rfl
    refine .inr (.inl ⟨a, vs, rfl, q, fun hw => ?_, fun hw p hp => ?_⟩)
    · refine fin (Step.refl R3) (ResOk.plain ?_)
      have : Ev.cutL ds l h = ds := by
        unfold Ev.cutL
        rw [l'.length, hw.1, hw.2, List.drop_zero, Nat.sub_zero, ← l'.length, List.take_length]
      rw [this]
      unfold Rep
      exact ⟨a, vs, rfl, q, l'⟩
    · exact fin (Step.fresh R3 hp) (new_tup R3 hp l'.cutL)
  · split at er
    · rename_i ds h1
      cases er
      obtain ⟨a, vs, rfl, q, l'⟩ := seqL_ok R3 x h1
      exact .inl ⟨a, vs, rfl, q, fun p hp => fin (Step.fresh R3 hp) (new_lst R3 hp l'.cutL)⟩
    · cases er
/-- xs[::-1] of a list -/
def mRev (ma : M D) : M D := fun ρ S => (ma ρ S).bind fun d S1 => match seqL S1 d with
  | some ds => .ok (.lst ds.reverse) S1
  | none => .fail
theorem ev_rev {a : Expr} {ma : M D} {k : Nat} {p1 p2 p3 pos : Pos} (ha : EvE X W a ma) : EvE X W (.Subscript a (.Slice none none (some (.UnaryOp .USub (.Constant (.int 1) k p1) p2)) p3) pos) (mRev ma) := by
  refine EvE.of_pe (pe_revL ha.pe) fun σ H μ S ρ R E F => ?_
  unfold mRev at F ⊢
  refine tm1 R E F fun d S1 v μ1 H1 e st x R1 E1 F1 => ?_
  split at F1
  · rename_i ds hd
    obtain ⟨a, vs, rfl, q, l⟩ := seqL_ok R1 x hd
    exact ⟨a, vs, rfl, q, fun p hp => ⟨_, S1, μ1, by rw [e, bind_ok]; simp only [hd], st.trans R (Step.fresh R1 hp), (new_lst R1 hp l.reverse).back R st⟩⟩
  · exact F1.elim

/-! ### argument lists -/
/-- the addresses of the new things among values -/
def newA : List D → List V → List Addr
  | d :: ds, v :: vs => match d.cell?, v with
    | some _, .ref a => a :: newA ds vs
    | _, _ => newA ds vs
  | _, _ => []
inductive ResL (K : PySem.W.Frag) (mg : Str → Option Value) (μ : List Addr) (H0 H : Hp) : List D → List V → Prop
  | nil : ResL K mg μ H0 H [] []
  | cons {d : D} {ds : List D} {v : V} {vs : List V} : ResOk K mg μ H0 H d v → ResL K mg μ H0 H ds vs → (∀ c a, d.cell? = some c → v = .ref a → a ∉ newA ds vs) → ResL K mg μ H0 H (d :: ds) (v :: vs)
section
variable {K : PySem.W.Frag} {mg : Str → Option Value} {μ μ' : List Addr} {H0 H H' : Hp} {S S' : Store}
theorem ResL.new {ds : List D} {vs : List V} (r : ResL K mg μ H0 H ds vs) : ∀ a ∈ newA ds vs, (∃ o, H a = some o) ∧ a ∉ μ ∧ H0 a = none := by
  induction r with
  | nil => intro a h; cases h
  | cons x r n ih =>
    rename_i d ds v vs
    intro a h
    unfold newA at h
    split at h
    · rename_i c b hc
      unfold ResOk at x
      rw [hc] at x
      obtain ⟨b', e, h1, h2, h3⟩ := x
      cases e
      rcases List.mem_cons.mp h with rfl | h
      · exact ⟨Option.ne_none_iff_exists'.mp h1.wr.ne_none, h2, h3⟩
      · exact ih a h
    · exact ih a h
theorem ResL.step {ds : List D} {vs : List V} (R : Rel K mg μ S H) (st : Step K mg μ H μ' S' H') (r : ResL K mg μ H0 H ds vs) : ResL K mg μ' H0 H' ds vs := by
  induction r with
  | nil => exact .nil
  | cons x r n ih => exact .cons (x.step R st) ih n
theorem ResL.back {ds : List D} {vs : List V} {S0 : Store} {μ0 μ1 : List Addr} {S1 : Store} {H00 : Hp} (R : Rel K mg μ0 S0 H00) (st : Step K mg μ0 H00 μ1 S1 H0) (r : ResL K mg μ H0 H ds vs) : ResL K mg μ H00 H ds vs := by
  induction r with
  | nil => exact .nil
  | cons x r n ih => exact .cons (x.back R st) ih n
theorem ResL.length {ds : List D} {vs : List V} (r : ResL K mg μ H0 H ds vs) : ds.length = vs.length := by
  induction r with
  | nil => rfl
  | cons x r n ih => simp [ih]
def boxL : List D → Store → List D × Store
  | [], S => ([], S)
  | d :: ds, S => ((box d S).1 :: (boxL ds (box d S).2).1, (boxL ds (box d S).2).2)
theorem Step.boxL {ds : List D} {vs : List V} {H0 : Hp} {μ0 : List Addr} : ∀ {μ : List Addr} {S : Store}, ResL K mg μ H0 H ds vs → Step K mg μ0 H0 μ S H →
    ∃ ext, Step K mg μ0 H0 (μ ++ ext) (Ev.boxL ds S).2 H ∧ RepL K (μ ++ ext) H (Ev.boxL ds S).1 vs ∧ ∀ a ∈ ext, a ∈ newA ds vs := by
  induction ds generalizing vs with
  | nil => intro μ S r st; cases r; exact ⟨[], by simpa [Ev.boxL] using st, RepL.nil, fun _ h => nomatch h⟩
  | cons d ds ih =>
    intro μ S r st
    cases r with
    | cons x r n =>
      rename_i v vs
      obtain ⟨μ1, st1, r1, ext1, e1⟩ := st.box x
      -- which cell was added
      have hext : (d.cell? = none ∧ ext1 = []) ∨ ∃ c a, d.cell? = some c ∧ v = .ref a ∧ ext1 = [a] := by
        unfold ResOk at x
        cases hc : d.cell? with
        | none =>
          refine .inl ⟨rfl, ?_⟩
          have l1 := st1.rel.len
          unfold Ev.box at l1
          rw [hc, e1] at l1
          have l0 := st.rel.len
          rw [List.length_append] at l1
          exact List.length_eq_zero_iff.mp (by simp only at l1; omega)
        | some c =>
          rw [hc] at x
          obtain ⟨a, rfl, _⟩ := x
          refine .inr ⟨c, a, rfl, rfl, ?_⟩
          unfold Ev.box at r1 st1
          rw [hc] at r1 st1
          simp only at r1 st1
          unfold Rep at r1
          obtain ⟨b, hb, eb⟩ := r1
          cases eb
          have l1 := st1.rel.len
          have l0 := st.rel.len
          rw [e1, List.length_append] at l1
          rw [e1, List.getElem?_append_right (by omega)] at hb
          have hlen : ext1.length = 1 := by simp at l1; omega
          obtain ⟨y, rfl⟩ := List.length_eq_one_iff.mp hlen
          rw [show S.length - μ.length = 0 by omega] at hb
          simp at hb
          rw [hb]
      have rr : ResL K mg μ1 H0 H ds vs := by
        have key : ∀ {ds : List D} {vs : List V}, ResL K mg μ H0 H ds vs → (∀ a ∈ newA ds vs, a ∉ ext1) → ResL K mg μ1 H0 H ds vs := by
          intro ds vs r
          induction r with
          | nil => intro _; exact .nil
          | cons x r n ih =>
            rename_i d ds v vs
            intro hn
            have hn2 : ∀ a ∈ newA ds vs, a ∉ ext1 := fun a ha => hn a (by
              unfold newA
              split
              · exact List.mem_cons_of_mem _ ha
              · exact ha)
            refine .cons ?_ (ih hn2) n
            unfold ResOk at x ⊢
            cases hc : d.cell? with
            | none => rw [hc] at x; dsimp only at x ⊢; rw [e1]; exact x.mono st.rel.wr Keep.refl
            | some c =>
              rw [hc] at x
              obtain ⟨a, rfl, h1, h2, h3⟩ := x
              refine ⟨a, rfl, by rw [e1]; exact h1.more st.rel.wr, fun hm => ?_, h3⟩
              rw [e1] at hm
              rcases List.mem_append.mp hm with z | z
              · exact h2 z
              · refine hn a ?_ z
                unfold newA
                rw [hc]
                exact List.mem_cons_self
        refine key r fun a ha hm => ?_
        rcases hext with ⟨_, e⟩ | ⟨c, b, hc, hv, e⟩
        · rw [e] at hm; cases hm
        · rw [e] at hm
          simp at hm
          subst hm
          exact n c _ hc hv ha
      obtain ⟨ext2, st2, r2, f2⟩ := ih rr st1
      refine ⟨ext1 ++ ext2, ?_, ?_, fun a ha => ?_⟩
      · rw [← List.append_assoc, ← e1]; exact st2
      · rw [← List.append_assoc, ← e1]
        refine RepL.cons ?_ r2
        exact r1.mono st1.rel.wr Keep.refl
      · unfold newA
        rcases hext with ⟨hc, e⟩ | ⟨c, b, hc, hv, e⟩
        · rw [e, List.nil_append] at ha
          rw [hc]
          exact f2 a ha
        · rw [hc, hv]
          rw [e] at ha
          rcases List.mem_append.mp ha with z | z
          · simp at z; rw [z]; exact List.mem_cons_self
          · exact List.mem_cons_of_mem _ (f2 a z)
end
structure EvA (X : Cx) (W : WX) (es : List Expr) (m : M (List D)) : Prop where
  run : ∀ (pos : Pos) (pins : List (Addr × Obj)) (s : Shared) (σ : L2.St) (H : Hp) (μ : List Addr) (S : Store) (ρ : Env'), Inv X pins σ H s → Rel X.K X.mg μ S H → EnvOk X.K μ H ρ σ → Fine X.K X.mg W μ H σ (m ρ S) →
    wpAny (model X.prog X.w) X.A (spliced (backTo pos (starEach es X.env))) (fun us s' => ∃ ds S' vs μ' H', m ρ S = .ok ds S' ∧ Inv X pins σ H' s' ∧ Vals vs us ∧ Step X.K X.mg μ H μ' S' H' ∧ ResL X.K X.mg μ' H H' ds vs) X.xe s
def notStar : Expr → Bool
  | .Starred _ _ => false
  | _ => true
theorem star_of {e : Expr} {es : List Expr} {env : Env} (h : notStar e = true) : starEach (e :: es) env = (false, eval e env) :: starEach es env := by
  cases e <;> first | rfl | cases h
def mNil : M (List D) := fun _ S => .ok [] S
def mCons (a : M D) (r : M (List D)) : M (List D) := fun ρ S => (a ρ S).bind fun d S1 => (r ρ S1).bind fun ds S2 => .ok (d :: ds) S2
theorem eva_nil : EvA X W [] mNil := ⟨fun pos pins s σ H μ S ρ I R E F => Calls.spliced_nil ⟨[], S, [], μ, H, rfl, I, .nil, Step.refl R, .nil⟩⟩
theorem eva_cons {e : Expr} {es : List Expr} {m : M D} {r : M (List D)} (he : EvE X W e m) (hr : EvA X W es r) (hs : notStar e = true) : EvA X W (e :: es) (mCons m r) := by
  refine ⟨fun pos pins s σ H μ S ρ I R E F => ?_⟩
  rw [star_of hs]
  show wpAny _ _ (spliced ((false, eval e X.env) :: backTo pos (starEach es X.env))) _ _ s
  unfold mCons at F ⊢
  refine Calls.spliced_cons (thn (he.run pins s σ H μ S ρ I R E F.left) fun u s1 ⟨d, S1, v, μ1, H1, e1, I1, r1, st1, x1⟩ => ?_)
  have F1 := Fine.right R st1 F e1
  have R1 := st1.rel
  refine thn (hr.run pos pins s1 σ H1 μ1 S1 ρ I1 R1 (E.step R st1) F1.left) fun us s2 ⟨ds, S2, vs, μ2, H2, e2, I2, r2, st2, x2⟩ => ?_
  refine ⟨d :: ds, S2, v :: vs, μ2, H2, by rw [e1, bind_ok, e2]; rfl, I2, .cons r1 r2, st1.trans R st2, .cons (x1.step R1 st2) (x2.back R st1) fun c a hc hv ha => ?_⟩
  obtain ⟨_, _, q⟩ := x2.new a ha
  unfold ResOk at x1
  rw [hc] at x1
  obtain ⟨b, eb, hb, _⟩ := x1
  rw [hv] at eb
  cases eb
  exact absurd q hb.wr.ne_none
def TMa (X : Cx) (W : WX) (m : M (List D)) : TA := fun σ H Q => ∃ μ S ρ, Rel X.K X.mg μ S H ∧ EnvOk X.K μ H ρ σ ∧ Fine X.K X.mg W μ H σ (m ρ S) ∧
  ∀ ds S' vs μ' H', m ρ S = .ok ds S' → Step X.K X.mg μ H μ' S' H' → ResL X.K X.mg μ' H H' ds vs → Q vs H'
theorem EvA.pa {es : List Expr} {m : M (List D)} (h : EvA X W es m) : PA X es (TMa X W m) := by
  refine ⟨fun pos pins s σ H Q I ⟨μ, S, ρ, R, E, F, q⟩ => thn (h.run pos pins s σ H μ S ρ I R E F) fun us s' ⟨ds, S', vs, μ', H', e, I', r, st, x⟩ => ?_⟩
  exact ⟨vs, H', I', r, q ds S' vs μ' H' e st x⟩
theorem tma1 {β : Type} {ma : M (List D)} {f : List D → Store → Out β} {σ : L2.St} {H : Hp} {μ : List Addr} {S : Store} {ρ : Env'} (R : Rel X.K X.mg μ S H) (E : EnvOk X.K μ H ρ σ) (F : Fine X.K X.mg W μ H σ ((ma ρ S).bind f)) {Q' : List V → Hp → Prop}
    (q : ∀ ds S1 vs μ1 H1, ma ρ S = .ok ds S1 → Step X.K X.mg μ H μ1 S1 H1 → ResL X.K X.mg μ1 H H1 ds vs → Rel X.K X.mg μ1 S1 H1 → EnvOk X.K μ1 H1 ρ σ → Fine X.K X.mg W μ1 H1 σ (f ds S1) → Q' vs H1) : TMa X W ma σ H Q' :=
  ⟨μ, S, ρ, R, E, F.left, fun ds S1 vs μ1 H1 e st x => q ds S1 vs μ1 H1 e st x st.rel (E.step R st) (F.right R st e)⟩

/-! ### displays -/
def mTup (m : M (List D)) : M D := fun ρ S => (m ρ S).bind fun ds S1 => if ds.length ≤ sizeLine then .ok (.tup (boxL ds S1).1) (boxL ds S1).2 else .fail
def mLst (m : M (List D)) : M D := fun ρ S => (m ρ S).bind fun ds S1 => if ds.length ≤ sizeLine then .ok (.lst (boxL ds S1).1) (boxL ds S1).2 else .fail
theorem ev_tup {es : List Expr} {m : M (List D)} {x1} {pos : Pos} (h : EvA X W es m) : EvE X W (.Tuple es x1 pos) (mTup m) := by
  refine EvE.of_pe (pe_tup h.pa) fun σ H μ S ρ R E F => ?_
  unfold mTup at F ⊢
  refine tma1 R E F fun ds S1 vs μ1 H1 e st x R1 E1 F1 => ?_
  split at F1
  · rename_i hz
    obtain ⟨ext, st2, r2, _⟩ := Step.boxL x st
    refine ⟨by rw [← x.length]; exact hz, fun p hp => ⟨_, _, _, by rw [e, bind_ok, if_pos hz], st2.trans R (Step.fresh st2.rel hp), (new_tup st2.rel hp r2).back R st2⟩⟩
  · exact F1.elim
theorem ev_lst {es : List Expr} {m : M (List D)} {pos : Pos} (h : EvA X W es m) : EvE X W (.List es pos) (mLst m) := by
  refine EvE.of_pe (pe_lst h.pa) fun σ H μ S ρ R E F => ?_
  unfold mLst at F ⊢
  refine tma1 R E F fun ds S1 vs μ1 H1 e st x R1 E1 F1 => ?_
  split at F1
  · rename_i hz
    obtain ⟨ext, st2, r2, _⟩ := Step.boxL x st
    refine ⟨by rw [← x.length]; exact hz, fun p hp => ⟨_, _, _, by rw [e, bind_ok, if_pos hz], st2.trans R (Step.fresh st2.rel hp), (new_lst st2.rel hp r2).back R st2⟩⟩
  · exact F1.elim
end Ev
/-! Ev5: targets, statements, loops, comprehensions. -/
namespace Ev
open PySem PySem.Spec PyProof.Rows L2
variable {X : Cx} {W : WX}

/-! ### targets -/
abbrev Bind := D → Env' → Option Env'
/-- a target: b binds, sl are the slots that it stores -/
def TGm (X : Cx) (b : Bind) (sl : List Nat) : TG := fun v σ H Q => ∃ μ S ρ d ρ', Rel X.K X.mg μ S H ∧ EnvOk X.K μ H ρ σ ∧ Rep X.K μ H d v ∧ b d ρ = some ρ' ∧
  ∀ σ', EnvOk X.K μ H ρ' σ' → (∀ vs : List Nat, (∀ i ∈ sl, i ∈ vs) → wipe σ' vs = wipe σ vs) → Q σ' H
def EvG (X : Cx) (tg : Expr) (b : Bind) (sl : List Nat) : Prop := PG X tg (TGm X b sl)
theorem wipe_set {σ : L2.St} {i : Nat} {x : Option V} : ∀ {vs : List Nat}, i ∈ vs → wipe (σ.set i x) vs = wipe σ vs
  | [], h => nomatch h
  | v :: vs, h => by
    unfold wipe
    by_cases hv : i ∈ vs
    · rw [wipe_set hv]
    · have e : i = v := by
        rcases List.mem_cons.mp h with e | h
        · exact e
        · exact absurd h hv
      subst e
      have key : ∀ vs : List Nat, i ∉ vs → wipe (σ.set i x) vs = (wipe σ vs).set i x := by
        intro vs
        induction vs with
        | nil => intro _; rfl
        | cons w ws ih =>
          intro hw
          simp only [List.mem_cons, not_or] at hw
          unfold wipe
          rw [ih hw.2, List.set_comm _ _ hw.1]
      rw [key vs hv, List.set_set]
def bName (i : Nat) : Bind := fun d ρ => some (ρ.set i (some d))
theorem evg_name {i : Nat} {x : Str} {pos : Pos} (hN : X.N.Nodup) (hi : X.N[i]? = some x) (hx : Loc X.env.scope x) (hf : X.fn x = true ∨ X.env.scope.names.lookup x = some .local) : EvG X (.Name x pos) (bName i) [i] := by
  refine ⟨fun pins s σ H v u Q I r ⟨μ, S, ρ, d, ρ', R, E, x1, e, q⟩ => (pg_name hN hi hx hf).run pins s σ H v u Q I r ?_⟩
  cases e
  exact q _ (E.set i x1) fun vs h => wipe_set (h i (by simp))
abbrev BindL := List D → Env' → Option Env'
def TGsm (X : Cx) (b : BindL) (sl : List Nat) : TGs := fun vs σ H Q => ∃ μ S ρ ds ρ', Rel X.K X.mg μ S H ∧ EnvOk X.K μ H ρ σ ∧ RepL X.K μ H ds vs ∧ b ds ρ = some ρ' ∧
  ∀ σ', EnvOk X.K μ H ρ' σ' → (∀ vs : List Nat, (∀ i ∈ sl, i ∈ vs) → wipe σ' vs = wipe σ vs) → Q σ' H
def EvGs (X : Cx) (ts : List Expr) (b : BindL) (sl : List Nat) : Prop := PGs X ts (TGsm X b sl)
def bNil : BindL := fun ds ρ => match ds with
  | [] => some ρ
  | _ => none
def bCons (b : Bind) (r : BindL) : BindL := fun ds ρ => match ds with
  | d :: ds => match b d ρ with
    | some ρ1 => r ds ρ1
    | none => none
  | [] => none
theorem evgs_nil : EvGs X [] bNil [] := by
  refine ⟨fun pins s σ H vs us Q I r ⟨μ, S, ρ, ds, ρ', R, E, x1, e, q⟩ => pgs_nil.run pins s σ H vs us Q I r ?_⟩
  unfold bNil at e
  split at e
  · cases e
    rw [RepL.nil_iff] at x1
    exact ⟨x1, q σ E fun _ _ => rfl⟩
  · cases e
theorem evgs_cons {e : Expr} {es : List Expr} {b : Bind} {r : BindL} {sl sl' : List Nat} (h1 : EvG X e b sl) (h2 : EvGs X es r sl')
    (hs : (assignEach (e :: es) X.env).map (·.2) = assign e X.env :: (assignEach es X.env).map (·.2)) : EvGs X (e :: es) (bCons b r) (sl ++ sl') := by
  refine ⟨fun pins s σ H vs us Q I rr ⟨μ, S, ρ, ds, ρ', R, E, x1, e1, q⟩ => (pgs_cons h1 h2 hs).run pins s σ H vs us Q I rr ?_⟩
  unfold bCons at e1
  split at e1
  · rename_i d ds
    split at e1
    · rename_i ρ1 h
      obtain ⟨v, w, rfl, r1, r2⟩ := RepL.cons_iff.mp x1
      refine ⟨v, w, rfl, μ, S, ρ, d, ρ1, R, E, r1, h, fun σ1 E1 w1 => ?_⟩
      refine ⟨μ, S, ρ1, ds, ρ', R, E1, r2, e1, fun σ2 E2 w2 => q σ2 E2 fun vs hv => ?_⟩
      rw [w2 vs fun i hi => hv i (List.mem_append_right _ hi), w1 vs fun i hi => hv i (List.mem_append_left _ hi)]
    · cases e1
  · cases e1
def bTup (r : BindL) (n : Nat) : Bind := fun d ρ => match d with
  | .tup ds => if ds.length = n then r ds ρ else none
  | _ => none
theorem evg_tup {es : List Expr} {k : Nat} {r : BindL} {sl : List Nat} {n : Nat} {pos : Pos} (hc : X.calm = true) (h : EvGs X es r sl) (hn : (assignEach es X.env).length = n) (hst : (assignEach es X.env).findIdx? (·.1) = none) :
    EvG X (.Tuple es k pos) (bTup r n) sl := by
  refine ⟨fun pins s σ H v u Q I rr ⟨μ, S, ρ, d, ρ', R, E, x1, e1, q⟩ => (pg_tup hc h hn hst).run pins s σ H v u Q I rr ?_⟩
  unfold bTup at e1
  split at e1
  · rename_i ds
    split at e1
    · rename_i hl
      unfold Rep at x1
      obtain ⟨a, vs, rfl, hq, l⟩ := x1
      exact ⟨a, vs, rfl, hq, by rw [← l.length]; exact hl, μ, S, ρ, ds, ρ', R, E, l, e1, q⟩
    · cases e1
  · cases e1

/-! ### statements -/
inductive SOut where
  | next (ρ : Env') (S : Store) | brk (ρ : Env') (S : Store) | cont (ρ : Env') (S : Store) | ret (d : D) (S : Store) | exc (c : Str) (ks : List Str) (ds : List D) (ρ : Env') (S : Store) | fail
abbrev MS := Env' → Store → SOut
section
variable (K : PySem.W.Frag) (mg : Str → Option Value) (W : WX) (E : Ends) (μ : List Addr) (H : Hp)
def GoodS : SOut → Prop
  | .next ρ' S' => ∀ σ' μ' H', Step K mg μ H μ' S' H' → EnvOk K μ' H' ρ' σ' → E.nx σ' H'
  | .brk ρ' S' => ∀ σ' μ' H', Step K mg μ H μ' S' H' → EnvOk K μ' H' ρ' σ' → E.bk σ' H'
  | .cont ρ' S' => ∀ σ' μ' H', Step K mg μ H μ' S' H' → EnvOk K μ' H' ρ' σ' → E.ct σ' H'
  | .ret d S' => ∀ v μ' H', Step K mg μ H μ' S' H' → ResOk K mg μ' H H' d v → E.rt v H'
  | .exc c ks ds ρ' S' => ∀ cls dx σ' μ' H', Step K mg μ H μ' S' H' → EnvOk K μ' H' ρ' σ' → ExcRep K mg μ' H' c ks ds cls dx → W cls dx σ' H'
  | .fail => False
end
section
variable {K : PySem.W.Frag} {mg : Str → Option Value} {E E' : Ends} {μ μ1 : List Addr} {H H1 : Hp} {S S1 : Store}
theorem GoodS.back {r : SOut} (R : Rel K mg μ S H) (st : Step K mg μ H μ1 S1 H1) (h : GoodS K mg W E μ H r) : GoodS K mg W E μ1 H1 r := by
  cases r with
  | next ρ' S' => exact fun σ' μ' H' s2 e => h σ' μ' H' (st.trans R s2) e
  | brk ρ' S' => exact fun σ' μ' H' s2 e => h σ' μ' H' (st.trans R s2) e
  | cont ρ' S' => exact fun σ' μ' H' s2 e => h σ' μ' H' (st.trans R s2) e
  | ret d S' => exact fun v μ' H' s2 x => h v μ' H' (st.trans R s2) (x.back R st)
  | exc c ks ds ρ' S' => exact fun cls dx σ' μ' H' s2 e x => h cls dx σ' μ' H' (st.trans R s2) e x
  | fail => exact h
theorem GoodS.nf {r : SOut} (h : GoodS K mg W E μ H r) : r ≠ .fail := fun e => by subst e; exact h
end
def TMs (X : Cx) (W : WX) (m : MS) : TS := fun E σ H => ∃ μ S ρ, Rel X.K X.mg μ S H ∧ EnvOk X.K μ H ρ σ ∧ GoodS X.K X.mg W E μ H (m ρ S)
def EvS (X : Cx) (W : WX) (st : Stmt) (m : MS) : Prop := PS X st (TMs X W m)
def EvSs (X : Cx) (W : WX) (sts : List Stmt) (m : MS) : Prop := PSs X sts (TMs X W m)
theorem PS.imp {st : Stmt} {t t' : TS} (h : PS X st t) (q : ∀ D σ H, t' D σ H → t D σ H) : PS X st t' := ⟨fun pins s σ H D I hw => h.run pins s σ H D I (q D σ H hw)⟩
theorem PSs.imp {st : List Stmt} {t t' : TS} (h : PSs X st t) (q : ∀ D σ H, t' D σ H → t D σ H) : PSs X st t' := ⟨fun pins s σ H D I hw => h.run pins s σ H D I (q D σ H hw)⟩
/-- of an expression, then a statement -/
def Out.s {α : Type} (ρ : Env') (r : Out α) (f : α → Store → SOut) : SOut := match r with
  | .ok a S => f a S
  | .exc c ks ds S => .exc c ks ds ρ S
  | .fail => .fail
@[simp] theorem s_ok {α : Type} {ρ : Env'} {a : α} {S : Store} {f : α → Store → SOut} : (Out.ok a S).s ρ f = f a S := rfl
@[simp] theorem s_exc {α : Type} {ρ : Env'} {c : Str} {ks : List Str} {ds : List D} {S : Store} {f : α → Store → SOut} : (Out.exc c ks ds S : Out α).s ρ f = .exc c ks ds ρ S := rfl
@[simp] theorem s_fail {α : Type} {ρ : Env'} {f : α → Store → SOut} : (Out.fail : Out α).s ρ f = .fail := rfl
theorem GoodS.left {α : Type} {K : PySem.W.Frag} {mg : Str → Option Value} {D : Ends} {μ : List Addr} {H : Hp} {ρ : Env'} {σ : L2.St} {r : Out α} {f : α → Store → SOut} {S : Store} (R : Rel K mg μ S H) (E : EnvOk K μ H ρ σ) (h : GoodS K mg W D μ H (r.s ρ f)) : Fine K mg W μ H σ r := by
  cases r with
  | ok _ _ => trivial
  | exc c ks ds S' => exact fun cls dx μ' H' st x => h cls dx σ μ' H' st (E.step R st) x
  | fail => exact h
theorem GoodS.right {α : Type} {K : PySem.W.Frag} {mg : Str → Option Value} {D : Ends} {μ μ1 : List Addr} {H H1 : Hp} {ρ : Env'} {r : Out α} {f : α → Store → SOut} {S S1 : Store} {a : α} (R : Rel K mg μ S H) (st : Step K mg μ H μ1 S1 H1) (h : GoodS K mg W D μ H (r.s ρ f)) (e : r = .ok a S1) : GoodS K mg W D μ1 H1 (f a S1) := by
  subst e
  exact GoodS.back R st h
theorem tms1 {ma : M D} {f : D → Store → SOut} {E : Ends} {σ : L2.St} {H : Hp} {μ : List Addr} {S : Store} {ρ : Env'} (R : Rel X.K X.mg μ S H) (En : EnvOk X.K μ H ρ σ) (G : GoodS X.K X.mg W E μ H ((ma ρ S).s ρ f)) {Q' : V → Hp → Prop}
    (q : ∀ d S1 v μ1 H1, ma ρ S = .ok d S1 → Step X.K X.mg μ H μ1 S1 H1 → ResOk X.K X.mg μ1 H H1 d v → Rel X.K X.mg μ1 S1 H1 → EnvOk X.K μ1 H1 ρ σ → GoodS X.K X.mg W E μ1 H1 (f d S1) → Q' v H1) : TM X W ma σ H Q' :=
  ⟨μ, S, ρ, R, En, G.left R En, fun d S1 v μ1 H1 e st x => q d S1 v μ1 H1 e st x st.rel (En.step R st) (G.right R st e)⟩
theorem tmst1 {ma : M Bool} {f : Bool → Store → SOut} {E : Ends} {σ : L2.St} {H : Hp} {μ : List Addr} {S : Store} {ρ : Env'} (R : Rel X.K X.mg μ S H) (En : EnvOk X.K μ H ρ σ) (G : GoodS X.K X.mg W E μ H ((ma ρ S).s ρ f)) {Q' : Bool → Hp → Prop}
    (q : ∀ d S1 μ1 H1, ma ρ S = .ok d S1 → Step X.K X.mg μ H μ1 S1 H1 → Rel X.K X.mg μ1 S1 H1 → EnvOk X.K μ1 H1 ρ σ → GoodS X.K X.mg W E μ1 H1 (f d S1) → Q' d H1) : TMt X W ma σ H Q' :=
  ⟨μ, S, ρ, R, En, G.left R En, fun d S1 μ1 H1 e st => q d S1 μ1 H1 e st st.rel (En.step R st) (G.right R st e)⟩

def sNext : MS := fun ρ S => .next ρ S
def sSeq (a b : MS) : MS := fun ρ S => match a ρ S with
  | .next ρ1 S1 => b ρ1 S1
  | r => r
theorem evs_nil : EvSs X W [] sNext := PSs.imp pss_nil fun E σ H ⟨μ, S, ρ, R, En, G⟩ => G σ μ H (Step.refl R) En
theorem seq_good {a b : MS} {E : Ends} {σ : L2.St} {H : Hp} (h : TMs X W (sSeq a b) E σ H) : TMs X W a { E with nx := TMs X W b E } σ H := by
  obtain ⟨μ, S, ρ, R, En, G⟩ := h
  refine ⟨μ, S, ρ, R, En, ?_⟩
  unfold sSeq at G
  cases e : a ρ S with
  | next ρ1 S1 =>
    rw [e] at G
    exact fun σ' μ' H' st E' => ⟨μ', S1, ρ1, st.rel, E', GoodS.back R st G⟩
  | brk _ _ => rw [e] at G; exact G
  | cont _ _ => rw [e] at G; exact G
  | ret _ _ => rw [e] at G; exact G
  | exc _ _ _ _ _ => rw [e] at G; exact G
  | fail => rw [e] at G; exact G
theorem evs_cons {st : Stmt} {rest : List Stmt} {a b : MS} (h1 : EvS X W st a) (h2 : EvSs X W rest b) : EvSs X W (st :: rest) (sSeq a b) :=
  PSs.imp (pss_cons h1 h2) fun E σ H h => seq_good h
theorem evs_one {st : Stmt} {a : MS} (h1 : EvS X W st a) : EvSs X W [st] a := pss_one h1
def sBrk : MS := fun ρ S => .brk ρ S
def sCont : MS := fun ρ S => .cont ρ S
/-- no comprehension -/
def notComp : Expr → Bool
  | .ListComp _ _ _ _ => false
  | .SetComp _ _ _ _ => false
  | .DictComp _ _ _ _ _ => false
  | _ => true
theorem swaps_of {e : Expr} (h : notComp e = true) {t : Option Expr} {l : Nat} {env : Env} : swapsWith e t l env = pure false := by
  cases e <;> first | rfl | cases h
def sExpr (m : M D) : MS := fun ρ S => (m ρ S).s ρ fun _ S1 => .next ρ S1
theorem evs_expr {e : Expr} {m : M D} {pos : Pos} (he : EvE X W e m) (hs : notComp e = true) : EvS X W (.Expr e pos) (sExpr m) := by
  refine PS.imp (ps_expr he.pe (swaps_of hs)) fun E σ H ⟨μ, S, ρ, R, En, G⟩ => ?_
  unfold sExpr at G
  exact tms1 R En G fun d S1 v μ1 H1 e st x R1 E1 G1 => G1 σ μ1 H1 (Step.refl R1) E1
def sRet (m : M D) : MS := fun ρ S => (m ρ S).s ρ fun d S1 => .ret d S1
theorem evs_ret {e : Expr} {m : M D} {pos : Pos} (he : EvE X W e m) : EvS X W (.Return (some e) pos) (sRet m) := by
  refine PS.imp (ps_ret he.pe) fun E σ H ⟨μ, S, ρ, R, En, G⟩ => ?_
  unfold sRet at G
  refine ⟨μ, S, ρ, R, En, G.left R En, fun d S1 v μ1 H1 e st x => ?_⟩
  rw [e] at G
  exact G v μ1 H1 st x
def sRetN : MS := fun _ S => .ret .non S
def sIf (c : M Bool) (a b : MS) : MS := fun ρ S => (c ρ S).s ρ fun k S1 => if k = true then a ρ S1 else b ρ S1
theorem evs_if {c : Expr} {a b : List Stmt} {mc : M Bool} {ma mb : MS} {pos : Pos} (hc : EvT X W c mc) (ha : EvSs X W a ma) (hb : EvSs X W b mb) : EvS X W (.If c a b pos) (sIf mc ma mb) := by
  refine PS.imp (ps_if hc.pt ha hb) fun E σ H ⟨μ, S, ρ, R, En, G⟩ => ?_
  unfold sIf at G
  refine tmst1 R En G fun k S1 μ1 H1 e st R1 E1 G1 => ?_
  cases k with
  | true => rw [if_pos rfl] at G1 ⊢; exact ⟨μ1, S1, ρ, R1, E1, G1⟩
  | false => rw [if_neg Bool.false_ne_true] at G1 ⊢; exact ⟨μ1, S1, ρ, R1, E1, G1⟩
/-- target = e -/
def sAsg (b : Bind) (m : M D) : MS := fun ρ S => (m ρ S).s ρ fun d S1 => match b (box d S1).1 ρ with
  | some ρ1 => .next ρ1 (box d S1).2
  | none => .fail
theorem asg_good {b : Bind} {sl : List Nat} {d : D} {v : V} {E : Ends} {σ : L2.St} {H0 H : Hp} {μ : List Addr} {S : Store} {ρ : Env'} (R : Rel X.K X.mg μ S H) (En : EnvOk X.K μ H ρ σ) (x : ResOk X.K X.mg μ H0 H d v)
    {μ0 : List Addr} {S0 : Store} (R0 : Rel X.K X.mg μ0 S0 H0) (st : Step X.K X.mg μ0 H0 μ S H) (G : GoodS X.K X.mg W E μ0 H0 (match b (box d S).1 ρ with | some ρ1 => .next ρ1 (box d S).2 | none => .fail)) : TGm X b sl v σ H E.nx := by
  obtain ⟨μ', st', r, ext, e⟩ := st.box x
  split at G
  · rename_i ρ1 h
    exact ⟨μ', (box d S).2, ρ, (box d S).1, ρ1, st'.rel, by rw [e]; exact En.more R, r, h, fun σ' E' _ => G σ' μ' H st' E'⟩
  · exact G.elim
theorem evs_asg {tg e : Expr} {b : Bind} {sl : List Nat} {m : M D} {pos : Pos} (he : EvE X W e m) (hg : EvG X tg b sl) (hs : notComp e = true) (hw : swappedStores [tg] e X.env = pure none)
    (h1 : (assignEach [tg] X.env).map (·.2) = [assign tg X.env]) : EvS X W (.Assign [tg] e pos) (sAsg b m) := by
  have hss : swapsWithSole [tg] e pos.line X.env = pure false := swaps_of hs
  refine PS.imp (ps_asg he.pe hg hss hw h1) fun E σ H ⟨μ, S, ρ, R, En, G⟩ => ?_
  unfold sAsg at G
  refine ⟨μ, S, ρ, R, En, G.left R En, fun d S1 v μ1 H1 e st x => ?_⟩
  rw [e] at G
  exact asg_good st.rel (En.step R st) x R st G
theorem evs_set {i : Nat} {x : Str} {e : Expr} {m : M D} {pos pos' : Pos} (hN : X.N.Nodup) (hi : X.N[i]? = some x) (hx : Loc X.env.scope x) (hf : X.fn x = true ∨ X.env.scope.names.lookup x = some .local) (he : EvE X W e m) (hs : notComp e = true) :
    EvS X W (.Assign [.Name x pos'] e pos) (sAsg (bName i) m) := by
  refine PS.imp (ps_set hN hi hx he.pe (swaps_of hs) hf) fun E σ H ⟨μ, S, ρ, R, En, G⟩ => ?_
  unfold sAsg at G
  refine ⟨μ, S, ρ, R, En, G.left R En, fun d S1 v μ1 H1 e st x => ?_⟩
  rw [e] at G
  obtain ⟨μ', S', ρ2, d2, ρ', R', E', r', b', q'⟩ := asg_good (b := bName i) (sl := [i]) st.rel (En.step R st) x R st G
  cases b'
  exact q' _ (E'.set i r') fun vs h => wipe_set (h i (by simp))

/-! ### while -/
end Ev
/-! Ev6: what is walked; for, comprehensions. -/
namespace Ev
open PySem PySem.Spec PyProof.Rows L2
variable {X : Cx} {W : WX}

abbrev Guard := List (Nat × List D)
/-- the list that is walked stays -/
def gOk : Guard → Store → Prop
  | [], _ => True
  | (n, ds) :: g, S => S[n]? = some (.lst ds) ∧ gOk g S
/-- more is known of the heap, all else stays -/
def Ext (H H' : Hp) : Prop := ∀ a o, H a = some o → H' a = some o
section
variable {K : PySem.W.Frag} {mg : Str → Option Value} {μ : List Addr} {H H' : Hp} {S : Store}
theorem Ext.refl : Ext H H := fun _ _ h => h
theorem Ext.fresh {p : Addr} {o : HO} (h : H p = none) : Ext H (upd H p o) := fun a u e => by rw [upd_ne (ne_of_none e h)]; exact e
theorem Ext.keep (x : Ext H H') : Keep μ H H' := .of fun a o h _ => x a o h
theorem Rel.ext (R : Rel K mg μ S H) (x : Ext H H') : Rel K mg μ S H' := by
  refine ⟨R.nd, R.len, fun n a c h1 h2 => ?_⟩
  have cc := R.cell n a c h1 h2
  rcases c.pln_or with hc | ⟨P, nm, rfl⟩
  · obtain ⟨C, dx, vs, q1, q2, q3, q4⟩ := (cellOk_iff hc).mp cc
    exact (cellOk_iff hc).mpr ⟨C, dx, vs, q1, x _ _ q2, q3, q4.keep R x.keep⟩
  · exact ⟨cc.1, NdefX.TabN.ext cc.2 x⟩
theorem Step.ext (R : Rel K mg μ S H) (x : Ext H H') : Step K mg μ H μ S H' := ⟨[], by simp, R.ext x, x.keep, fun _ h => nomatch h⟩
/-- what an iterator gives: the items, turn by turn, whatever comes of the rest -/
def ItOk (K : PySem.W.Frag) (mg : Str → Option Value) (J : It) (items : List D) (g : Guard) (μ0 : List Addr) (S0 : Store) (H0 : Hp) : Prop :=
  ∀ μ S H, Step K mg μ0 H0 μ S H → gOk g S → (∀ i, i < items.length → J.go i H) ∧ J.stop items.length H ∧
    ∀ (i : Nat) x H', i < items.length → J.yld i H x H' → Ext H H' ∧ ∃ d, items[i]? = some d ∧ Rep K μ H' d x
end
def TMi (X : Cx) (W : WX) (m : M (List D × Guard)) : TI := fun σ H R => ∃ μ S ρ, Rel X.K X.mg μ S H ∧ EnvOk X.K μ H ρ σ ∧ Fine X.K X.mg W μ H σ (m ρ S) ∧
  ∀ p S' μ' H' J, m ρ S = .ok p S' → Step X.K X.mg μ H μ' S' H' → ItOk X.K X.mg J p.1 p.2 μ' S' H' → R J H'
def EvI (X : Cx) (W : WX) (tg iter : Expr) (m : M (List D × Guard)) : Prop := PI X tg iter (TMi X W m)
theorem PI.imp {tg iter : Expr} {t t' : TI} (h : PI X tg iter t) (q : ∀ σ H R, t' σ H R → t σ H R) : PI X tg iter t' := ⟨fun pins s σ H R I hw => h.run pins s σ H R I (q σ H R hw)⟩

/-! ### over lists, tuples, texts -/
def itemsD (S : Store) (d : D) : Option (List D × Guard) := match d with
  | .tup ds => some (ds, [])
  | .lst ds => some (ds, [])
  | .fro ds => some (ds, [])
  | .str x => some (x.cps.toList.map (fun c => D.str ⟨#[c]⟩), [])
  | .ref n => match S[n]? with
    | some (.lst ds) => some (ds, [(n, ds)])
    | _ => none
  | _ => none
def mIter (m : M D) : M (List D × Guard) := fun ρ S => (m ρ S).bind fun d S1 => Out.of (itemsD S1 d) S1
section
variable {K : PySem.W.Frag} {mg : Str → Option Value} {μ : List Addr} {H0 H : Hp} {S : Store}
/-- a list that is walked, whatever holds it -/
theorem itl_ok {d : D} {ds : List D} {g : Guard} {v : V} (R : Rel K mg μ S H) (x : ResOk K mg μ H0 H d v) (h : itemsD S d = some (ds, g)) (hl : seqT d = none) (hs : ∀ z, d ≠ .str z) :
    ∃ a, v = .ref a ∧ (∃ xs, SqL K H a xs) ∧ ItOk K mg (Itl K a) ds g μ S H := by
  -- at any later heap: the list's items are ds
  have key : ∀ a, (∀ μ' S' H', Step K mg μ H μ' S' H' → gOk g S' → ∃ vs, SqL K H' a vs ∧ RepL K μ' H' ds vs) → ItOk K mg (Itl K a) ds g μ S H := by
    intro a q μ' S' H' st hg
    obtain ⟨vs, hq, l⟩ := q μ' S' H' st hg
    refine ⟨fun i hi => ⟨vs, vs[i]'(by rw [← l.length]; exact hi), hq, by simp⟩, ⟨vs, hq, Nat.le_of_eq l.length.symm⟩, fun i y H2 hi hy => ?_⟩
    obtain ⟨e, hy⟩ := hy
    subst e
    have e2 := hy vs hq
    have hd : ds[i]? = some ds[i] := List.getElem?_eq_getElem hi
    obtain ⟨w, ew, rw'⟩ := l.get hd
    rw [e2] at ew
    cases ew
    exact ⟨Ext.refl, ds[i], hd, rw'⟩
  cases d with
  | tup _ => cases hl
  | str z => exact absurd rfl (hs z)
  | lst es =>
    cases h
    unfold ResOk at x
    obtain ⟨a, rfl, hc, hm, _⟩ := x
    obtain ⟨C, dx, vs, _, e, _, l⟩ := id hc
    refine ⟨a, rfl, ⟨vs, SqL.of e⟩, key a fun μ' S' H' st _ => ?_⟩
    obtain ⟨⟨_, _, vs', _, e', _, l'⟩, _⟩ := hc.step R st hm
    exact ⟨vs', SqL.of e', l'⟩
  | fro es =>
    cases h
    have x := x.rep rfl
    unfold Rep at x
    obtain ⟨a, vs, rfl, hq, l⟩ := x
    refine ⟨a, rfl, ⟨vs, hq.seq⟩, key a fun μ' S' H' st _ => ?_⟩
    have x' : Rep K μ' H' (.fro ds) (.ref a) := st.rep R (by unfold Rep; exact ⟨a, vs, rfl, hq, l⟩)
    unfold Rep at x'
    obtain ⟨b, vs', e, hq', l'⟩ := x'
    cases e
    exact ⟨vs', hq'.seq, l'⟩
  | ref n =>
    unfold itemsD at h
    dsimp only at h
    split at h
    · rename_i es hn
      cases h
      have x := x.rep rfl
      unfold Rep at x
      obtain ⟨a, ha, rfl⟩ := x
      obtain ⟨C, dx, vs, _, e, _, l⟩ := R.cell n a _ ha hn
      refine ⟨a, rfl, ⟨vs, SqL.of e⟩, key a fun μ' S' H' st hg => ?_⟩
      obtain ⟨ext, em, R', _⟩ := id st
      have ha' : μ'[n]? = some a := by rw [em, List.getElem?_append_left (List.getElem?_eq_some_iff.mp ha).1]; exact ha
      have hg : S'[n]? = some (.lst ds) := hg.1
      obtain ⟨_, _, vs', _, e', _, l'⟩ := R'.cell n a _ ha' hg
      exact ⟨vs', SqL.of e', l'⟩
    · cases h
  | _ => cases h
theorem itt_ok {ds : List D} {v : V} (R : Rel K mg μ S H) (x : ResOk K mg μ H0 H (.tup ds) v) : ∃ a, v = .ref a ∧ (∃ xs, SqT K H a xs) ∧ ItOk K mg (Itt K a) ds [] μ S H := by
  have x := x.rep rfl
  unfold Rep at x
  obtain ⟨a, vs, rfl, hq, l⟩ := x
  refine ⟨a, rfl, ⟨vs, hq⟩, fun μ' S' H' st _ => ?_⟩
  have x' : Rep K μ' H' (.tup ds) (.ref a) := st.rep R (by unfold Rep; exact ⟨a, vs, rfl, hq, l⟩)
  unfold Rep at x'
  obtain ⟨b, vs', e, hq', l'⟩ := x'
  cases e
  refine ⟨fun i hi => ⟨vs', vs'[i]'(by rw [← l'.length]; exact hi), hq', by simp⟩, ⟨vs', hq', Nat.le_of_eq l'.length.symm⟩, fun i y H2 hi hy => ?_⟩
  obtain ⟨e, hy⟩ := hy
  subst e
  have e2 := hy vs' hq'
  have hd : ds[i]? = some ds[i] := List.getElem?_eq_getElem hi
  obtain ⟨w, ew, rw'⟩ := l'.get hd
  rw [e2] at ew
  cases ew
  exact ⟨Ext.refl, ds[i], hd, rw'⟩
theorem its_ok {x : Str} : ItOk K mg (Its x) (x.cps.toList.map (fun c => D.str ⟨#[c]⟩)) [] μ S H := by
  intro μ' S' H' st _
  refine ⟨fun i hi => ?_, ?_, fun i y H2 hi hy => ?_⟩
  · show i < x.cps.size
    simpa using hi
  · show x.cps.size ≤ _
    simp
  · obtain ⟨e, c, hc, ev⟩ := hy
    subst e
    refine ⟨Ext.refl, .str ⟨#[c]⟩, ?_, by unfold Rep; exact ev⟩
    simp [hc]
end
theorem evi_val {tg e : Expr} {m : M D} (he : EvE X W e m) : EvI X W tg e (mIter m) := by
  refine ⟨fun pins s σ H R I ⟨μ, S, ρ, Re, E, F, q⟩ => ?_⟩
  unfold mIter at F q
  refine thn (he.run pins s σ H μ S ρ I Re E F.left) fun u s1 ⟨d, S1, v, μ1, H1, e1, I1, r1, st, x⟩ => ?_
  obtain ⟨p, ep⟩ := fine_of (Fine.right (f := fun d S1 => Out.of (itemsD S1 d) S1) Re st F e1)
  rw [e1, bind_ok, ep] at q
  obtain ⟨ds, g⟩ := p
  have R1 := st.rel
  by_cases hs : ∃ z, d = .str z
  · obtain ⟨z, rfl⟩ := hs
    cases ep
    cases rep_str x
    obtain ⟨t, rfl⟩ := r1
    have q' := q (_, []) S1 μ1 H1 (Its z) rfl st its_ok
    cases ha : z.cps.all (· < 128)
    · exact wpAny_pyIter_wide ha (pi_one (tk := s1.toks) I1 _ (turn_str _ z t "str_iterator" (.inr rfl)) ⟨_, Heap.get?_push_size _ rfl, rfl, rfl⟩ q')
    · exact wpAny_pyIter_ascii ha (pi_one (tk := s1.toks) I1 _ (turn_str _ z t "str_ascii_iterator" (.inl rfl)) ⟨_, Heap.get?_push_size _ rfl, rfl, rfl⟩ q')
  · cases hd : seqT d with
    | some es =>
      cases d with
      | tup ds' =>
        cases ep
        obtain ⟨a, rfl, ⟨xs, hq⟩, hi⟩ := itt_ok R1 x
        cases r1
        obtain ⟨its, rv, pl, hz⟩ := I1.tuple hq
        refine wpAny_pyIter_tuple (show s1.heap.IsTuple a its.toArray from pl) ?_
        refine ⟨s1.heap.objs.size, [s1.heap.objs.size], _, _, H1, rfl, I1.kept (t' := s1.toks) fun b o e => Heap.get?_push_of_some _ e, turn_tuple a _, ⟨_, Heap.get?_push_size _ rfl, rfl, rfl⟩, fun b hb => ?_, q _ S1 μ1 H1 _ rfl st hi⟩
        have e : b = s1.heap.objs.size := by simpa using hb
        subst e
        exact I1.fpOk (Nat.le_refl _) (I1.hok.fresh (Nat.le_refl _))
      | _ => cases hd
    | none =>
      obtain ⟨a, rfl, ⟨xs, hq⟩, hi⟩ := itl_ok R1 x ep hd fun z e => hs ⟨z, e⟩
      cases r1
      obtain ⟨its, rv, pl, hz⟩ := I1.list hq
      refine wpAny_pyIter_list pl.isList ?_
      refine ⟨s1.heap.objs.size, [s1.heap.objs.size], _, _, H1, rfl, I1.kept (t' := s1.toks) fun b o e => Heap.get?_push_of_some _ e, turn_list a _, ⟨_, Heap.get?_push_size _ rfl, rfl, rfl⟩, fun b hb => ?_, q _ S1 μ1 H1 _ rfl st hi⟩
      have e : b = s1.heap.objs.size := by simpa using hb
      subst e
      exact I1.fpOk (Nat.le_refl _) (I1.hok.fresh (Nat.le_refl _))

/-! ### ranges -/
def rangeL (lo : Int) (n : Nat) : List D := (List.range n).map fun i => D.int (lo + (i : Nat))
theorem itr_ok {K : PySem.W.Frag} {mg : Str → Option Value} {μ : List Addr} {H : Hp} {S : Store} {lo : Int} {n : Nat} : ItOk K mg (Itr lo n) (rangeL lo n) [] μ S H := by
  intro μ' S' H' st _
  have hl : (rangeL lo n).length = n := by simp [rangeL]
  refine ⟨fun i hi => by rw [hl] at hi; exact hi, by rw [hl]; exact Nat.le_refl _, fun i y H2 hi hy => ?_⟩
  obtain ⟨e, ev⟩ := hy
  subst e
  rw [hl] at hi
  refine ⟨Ext.refl, .int (lo + (i : Nat)), by simp [rangeL, hi], by unfold Rep; exact ev⟩
open Classical in
noncomputable def mRange1 (m : M D) : M (List D × Guard) := fun ρ S => (m ρ S).bind fun d S1 => match d with
  | .int j => if In62 j then .ok (rangeL 0 j.toNat, []) S1 else .fail
  | _ => .fail
open Classical in
noncomputable def mRange2 (m m' : M D) : M (List D × Guard) := fun ρ S => (m ρ S).bind fun d S1 => (m' ρ S1).bind fun e S2 => match d, e with
  | .int i, .int j => if In62 i ∧ In62 j then .ok (rangeL i (j - i).toNat, []) S2 else .fail
  | _, _ => .fail
theorem evi_range1 {tg a : Expr} {m : M D} {p pos : Pos} (hg : Gl X "range") (hm : X.mg "range" = none) (ha : EvE X W a m) (hs : notStar a = true) : EvI X W tg (.Call (.Name "range" p) [a] [] pos) (mRange1 m) := by
  refine PI.imp (pi_range1 hg hm (pa_cons ha.pe pa_nil (star_of hs)) (by rw [star_of hs]; rfl)) fun σ H R ⟨μ, S, ρ, Re, E, F, q⟩ => ?_
  unfold mRange1 at F q
  refine tm1 Re E F fun d S1 v μ1 H1 e st x R1 E1 F1 => ?_
  split at F1
  · rename_i j
    split at F1
    · rename_i hj
      cases rep_int x
      exact ⟨j, rfl, hj.1, hj.2, q _ S1 μ1 H1 _ (by rw [e, bind_ok]; exact if_pos hj) st itr_ok⟩
    · exact F1.elim
  · exact F1.elim
/-! ### for -/
open Classical in
noncomputable def forD (b : Bind) (body : MS) (g : Guard) : List D → MS
  | [], ρ, S => if gOk g S then .next ρ S else .fail
  | d :: ds, ρ, S => if gOk g S then (match b d ρ with
    | none => .fail
    | some ρ1 => match body ρ1 S with
      | .next ρ2 S2 => forD b body g ds ρ2 S2
      | .cont ρ2 S2 => forD b body g ds ρ2 S2
      | .brk ρ2 S2 => .next ρ2 S2
      | r => r) else .fail
noncomputable def sFor (b : Bind) (mi : M (List D × Guard)) (body : MS) : MS := fun ρ S => (mi ρ S).s ρ fun p S1 => forD b body p.2 p.1 ρ S1
def notSet : Expr → Bool
  | .Set _ _ _ => false
  | _ => true
theorem folded_notSet {e : Expr} (h : notSet e = true) {env : Env} (x : Value) : foldedSetIterable e env x = pure x := by
  cases e <;> first | rfl | cases h
theorem evs_for {tg iter : Expr} {body : List Stmt} {b : Bind} {sl : List Nat} {mi : M (List D × Guard)} {mb : MS} {pos : Pos} (hp : PassesOwn (model X.prog X.w) X.A X.env X.xe) (hc : X.calm = true) (hi : EvI X W tg iter mi) (hg : EvG X tg b sl) (hb : EvSs X W body mb)
    (hs : notSet iter = true) : EvS X W (.For tg iter body [] pos) (sFor b mi mb) := by
  refine PS.imp (ps_for hp hc hi hg hb (folded_notSet hs)) fun E σ H ⟨μ, S, ρ, R, En, G⟩ => ?_
  unfold sFor at G
  refine ⟨μ, S, ρ, R, En, G.left R En, fun p S1 μ1 H1 J e st hJ => ?_⟩
  obtain ⟨items, g⟩ := p
  have G1 : GoodS X.K X.mg W E μ1 H1 (forD b mb g items ρ S1) := GoodS.right (f := fun p S1 => forD b mb p.2 p.1 ρ S1) R st G e
  have R1 := st.rel
  refine ⟨fun i m σ H => m = items.length - i ∧ i ≤ items.length ∧ ∃ μ S ρ, Step X.K X.mg μ1 H1 μ S H ∧ EnvOk X.K μ H ρ σ ∧ GoodS X.K X.mg W E μ H (forD b mb g (items.drop i) ρ S),
    ⟨items.length, by simp, Nat.zero_le _, μ1, S1, ρ, Step.refl R1, En.step R st, by rw [List.drop_zero]; exact G1⟩, ?_⟩
  rintro i m σ H ⟨rfl, hi, μ, S, ρ, st1, E1, G⟩
  have R2 := st1.rel
  by_cases hlt : i < items.length
  · rw [List.drop_eq_getElem_cons hlt, forD] at G
    split at G
    · rename_i hgk
      obtain ⟨q1, q2, q3⟩ := hJ μ S H st1 hgk
      refine .inr ⟨q1 i hlt, fun σ H => ∃ μ S ρ, Step X.K X.mg μ1 H1 μ S H ∧ EnvOk X.K μ H ρ σ ∧ GoodS X.K X.mg W E μ H (forD b mb g (items.drop (i + 1)) ρ S), fun σ' H' h => ⟨items.length - (i + 1), by omega, rfl, hlt, h⟩, fun x H2 hy => ?_⟩
      obtain ⟨hx, d, hd, r⟩ := q3 i x H2 hlt hy
      have : items[i] = d := by rw [List.getElem?_eq_getElem hlt] at hd; exact Option.some.inj hd
      rw [this] at G
      have st2 : Step X.K X.mg μ H μ S H2 := Step.ext R2 hx
      have R3 := st2.rel
      split at G
      · exact G.elim
      · rename_i ρ1 hb1
        refine ⟨μ, S, ρ, d, ρ1, R3, E1.step R2 st2, r, hb1, fun σ' E' _ => ⟨μ, S, ρ1, R3, E', ?_⟩⟩
        have st12 := st1.trans R1 st2
        cases hbo : mb ρ1 S with
        | next ρ2 S2 => rw [hbo] at G; exact fun σ2 μ2 H3 s3 e3 => ⟨μ2, S2, ρ2, st12.trans R1 s3, e3, GoodS.back R2 (st2.trans R2 s3) G⟩
        | cont ρ2 S2 => rw [hbo] at G; exact fun σ2 μ2 H3 s3 e3 => ⟨μ2, S2, ρ2, st12.trans R1 s3, e3, GoodS.back R2 (st2.trans R2 s3) G⟩
        | brk ρ2 S2 => rw [hbo] at G; exact GoodS.back (E := E) (r := .next ρ2 S2) R2 st2 G
        | ret d2 S2 => rw [hbo] at G; exact GoodS.back (E := E) (r := .ret d2 S2) R2 st2 G
        | exc c ks ds ρ2 S2 => rw [hbo] at G; exact GoodS.back (E := E) (r := .exc c ks ds ρ2 S2) R2 st2 G
        | fail => rw [hbo] at G; exact G
    · exact G.elim
  · have e : i = items.length := by omega
    subst e
    rw [List.drop_length, forD] at G
    split at G
    · rename_i hgk
      obtain ⟨_, q2, _⟩ := hJ μ S H st1 hgk
      exact .inl ⟨q2, G σ μ H (Step.refl R2) E1⟩
    · exact G.elim

/-! ### list comprehensions -/
def W0 : WX := fun _ _ _ _ => False
/-- the slots of the block's own names forgotten -/
def wipeE (ρ : Env') : List Nat → Env'
  | [] => ρ
  | v :: vs => (wipeE ρ vs).set v none
theorem EnvOk.wipe {K : PySem.W.Frag} {μ : List Addr} {H : Hp} {ρ : Env'} {σ : L2.St} (h : EnvOk K μ H ρ σ) : ∀ vs : List Nat, EnvOk K μ H (wipeE ρ vs) (L2.wipe σ vs)
  | [] => h
  | v :: vs => by
    have ih := EnvOk.wipe h vs
    unfold wipeE L2.wipe
    refine ⟨by simp [ih.len], fun j e q => ?_⟩
    rw [List.getElem?_set] at q ⊢
    split at q
    · split at q <;> cases q
    · rename_i hj
      rw [if_neg hj]
      exact ih.at_ j e q
open Classical in
noncomputable def compL (b : Bind) (mt : M Bool) (me : M D) (g : Guard) (ρ0 : Env') : List D → Store → Out (List D)
  | [], S => if gOk g S then .ok [] S else .fail
  | d :: ds, S => if gOk g S then (match b d ρ0 with
    | none => .fail
    | some ρ1 => (mt ρ1 S).bind fun k S1 => if k = true then (me ρ1 S1).bind fun e S2 => (compL b mt me g ρ0 ds (box e S2).2).bind fun es S3 => .ok ((box e S2).1 :: es) S3
        else compL b mt me g ρ0 ds S1) else .fail
/-- no exception leaves a comprehension -/
def Out.noX {α : Type} : Out α → Out α
  | .ok a S => .ok a S
  | _ => .fail
@[simp] theorem noX_ok {α : Type} {a : α} {S : Store} : (Out.ok a S).noX = .ok a S := rfl
noncomputable def mComp (vs : List Nat) (b : Bind) (mi : M (List D × Guard)) (mt : M Bool) (me : M D) : M D := fun ρ S => (mi ρ S).bind fun p S1 =>
  if p.1.length ≤ sizeLine then (compL b mt me p.2 (wipeE ρ vs) p.1 S1).noX.bind fun es S2 => .ok (.lst es) S2 else .fail
section
variable {K : PySem.W.Frag} {mg : Str → Option Value} {μ : List Addr} {H : Hp} {S : Store} {p : Addr} {xs ys : List V}
/-- a list that no cell holds is changed -/
theorem Rep.poke (R : Rel K mg μ S H) (h : H p = some (.lst xs)) (hp : p ∉ μ) {d : D} {v : V} (r : Rep K μ H d v) : Rep K μ (upd H p (.lst ys)) d v := by
  have hw : ∀ a ∈ μ ++ [p], Wr H a := fun a ha => by
    rcases List.mem_append.mp ha with z | z
    · exact R.wr a z
    · simp at z; subst z; exact .inl ⟨xs, h⟩
  have k : Keep (μ ++ [p]) H (upd H p (.lst ys)) := .of fun a o e hn => by
    rw [upd_ne (fun z => hn (by rw [z]; simp))]; exact e
  have r1 : Rep K (μ ++ [p]) H d v := r.mono R.wr Keep.refl
  have r2 : Rep K (μ ++ [p] ++ []) (upd H p (.lst ys)) d v := r1.mono hw k
  rw [List.append_nil] at r2
  exact r2.cut r.lo
theorem RepL.poke (R : Rel K mg μ S H) (h : H p = some (.lst xs)) (hp : p ∉ μ) {d : List D} {v : List V} (r : RepL K μ H d v) : RepL K μ (upd H p (.lst ys)) d v := by
  induction d generalizing v with
  | nil => rw [RepL.nil_iff] at r ⊢; exact r
  | cons d ds ih =>
    obtain ⟨w, ws, rfl, r1, r2⟩ := RepL.cons_iff.mp r
    exact RepL.cons (r1.poke R h hp) (ih r2)
theorem Rel.poke (R : Rel K mg μ S H) (h : H p = some (.lst xs)) (hp : p ∉ μ) : Rel K mg μ S (upd H p (.lst ys)) := by
  refine ⟨R.nd, R.len, fun n a c h1 h2 => ?_⟩
  have cc := R.cell n a c h1 h2
  have hm : a ∈ μ := List.mem_of_getElem? h1
  rcases c.pln_or with hc | ⟨P, nm, rfl⟩
  · obtain ⟨C, dx, vs, q1, q2, q3, q4⟩ := (cellOk_iff hc).mp cc
    exact (cellOk_iff hc).mpr ⟨C, dx, vs, q1, by rw [upd_ne (fun z => hp (by rw [← z]; exact hm))]; exact q2, q3, q4.poke R h hp⟩
  · obtain ⟨ea, t⟩ := cellOk_tab.mp cc
    refine cellOk_tab.mpr ⟨ea, tabN_keep t (upd_ne fun z => hp (by rw [← z]; exact hm)) fun c' q e => ?_⟩
    rw [upd_ne (fun z => ?_)]
    · exact e
    · subst z
      unfold LamX.CodeO at e
      rw [e] at h; cases h
end
/-- a clause's tests -/
structure EvTf (X : Cx) (W : WX) (ifs : List Expr) (m : M Bool) : Prop where
  run : ∀ (pins : List (Addr × Obj)) (s : Shared) (σ : L2.St) (H : Hp) (μ : List Addr) (S : Store) (ρ : Env'), Inv X pins σ H s → Rel X.K X.mg μ S H → EnvOk X.K μ H ρ σ → Fine X.K X.mg W μ H σ (m ρ S) →
    wpAny (model X.prog X.w) X.A (forIn ifs true fun c r => if r = true then do let ok ← isTrue c X.env (eval c X.env); pure (ForInStep.yield ok) else pure (ForInStep.yield r)) (fun b s' => ∃ S' μ' H', m ρ S = .ok b S' ∧ Inv X pins σ H' s' ∧ Step X.K X.mg μ H μ' S' H') X.xe s
theorem evtf_one {c : Expr} {m : M Bool} (h : EvT X W c m) : EvTf X W [c] m := ⟨fun pins s σ H μ S ρ I R E F => wpAny_tests_one (h.run pins s σ H μ S ρ I R E F)⟩
theorem EvTf.pts {ifs : List Expr} {m : M Bool} (h : EvTf X W ifs m) : PTs X ifs (TMt X W m) := by
  refine ⟨fun pins s σ H Q I ⟨μ, S, ρ, R, E, F, q⟩ => thn (h.run pins s σ H μ S ρ I R E F) fun b s' ⟨S', μ', H', e, I', st⟩ => ?_⟩
  exact ⟨H', I', q b S' μ' H' e st⟩
theorem fine_ok {K : PySem.W.Frag} {mg : Str → Option Value} {W : WX} {μ : List Addr} {H : Hp} {σ : L2.St} {α : Type} {r : Out α} {a : α} {S : Store} (h : r = .ok a S) : Fine K mg W μ H σ r := by subst h; trivial
/-- the reading of a comprehension -/
theorem comp_good {K : PySem.W.Frag} {mg : Str → Option Value} {X : Cx} (hK : X.K = K) (hmg : X.mg = mg) {wi : TI} {vs : List Nat} {b : Bind} {sl : List Nat} {mt : M Bool} {me : M D} {J : It} {items : List D} {g : Guard} {ρ : Env'} {σ : L2.St} {H1 : Hp} {μ1 : List Addr} {S1 S' : Store} {es : List D} {Q : VK}
    (hsl : ∀ i ∈ sl, i ∈ vs) (R1 : Rel K mg μ1 S1 H1) (E1 : EnvOk K μ1 H1 ρ σ) (hJ : ItOk K mg J items g μ1 S1 H1) (hz : items.length ≤ sizeLine) (hr : compL b mt me g (wipeE ρ vs) items S1 = .ok es S')
    (hQ : ∀ v μ' H', Step K mg μ1 H1 μ' S' H' → ResOk K mg μ' H1 H' (.lst es) v → Q v H') :
    ∀ D, H1 D = none → ∃ Wn : Nat → Nat → Hp → Prop, (∃ m, Wn 0 m (upd H1 D (.lst []))) ∧ ∀ i m H, Wn i m H →
      (J.stop i H ∧ Q (.ref D) H) ∨ (J.go i H ∧ ∃ Nx : Hp → Prop, (∀ H', Nx H' → ∃ m', m' < m ∧ Wn (i + 1) m' H') ∧ ∀ x H', J.yld i H x H' → TGm X b sl x (L2.wipe σ vs) H' fun σ2 H2 => L2.wipe σ2 vs = L2.wipe σ vs ∧ TMt X W0 mt σ2 H2 fun k H3 =>
        if k = true then TM X W0 me σ2 H3 fun y H4 => ∃ acc, H4 D = some (.lst acc) ∧ acc.length < sizeLine ∧ Nx (upd H4 D (.lst (acc ++ [y]))) else Nx H3) := by
  subst hK
  subst hmg
  intro D hD
  refine ⟨fun i m H => m = items.length - i ∧ i ≤ items.length ∧ ∃ μ S accd accv esr, Step X.K X.mg μ1 H1 μ S H ∧ D ∉ μ ∧ H D = some (.lst accv) ∧ RepL X.K μ H accd accv ∧ accd.length ≤ i ∧ compL b mt me g (wipeE ρ vs) (items.drop i) S = .ok esr S' ∧ es = accd ++ esr,
    ⟨items.length, by simp, Nat.zero_le _, μ1, S1, [], [], es, Step.fresh R1 hD, R1.nin hD, upd_same, RepL.nil, Nat.le_refl _, by rw [List.drop_zero]; exact hr, rfl⟩, ?_⟩
  rintro i m H ⟨rfl, hi, μ, S, accd, accv, esr, st, hDm, hDl, racc, hal, hc, hes⟩
  have R := st.rel
  by_cases hlt : i < items.length
  · rw [List.drop_eq_getElem_cons hlt, compL] at hc
    split at hc
    · rename_i hgk
      obtain ⟨q1, q2, q3⟩ := hJ μ S H st hgk
      refine .inr ⟨q1 i hlt, fun H => i + 1 ≤ items.length ∧ ∃ μ S accd accv esr, Step X.K X.mg μ1 H1 μ S H ∧ D ∉ μ ∧ H D = some (.lst accv) ∧ RepL X.K μ H accd accv ∧ accd.length ≤ i + 1 ∧ compL b mt me g (wipeE ρ vs) (items.drop (i + 1)) S = .ok esr S' ∧ es = accd ++ esr,
        fun H' h => ⟨items.length - (i + 1), by omega, rfl, h⟩, fun x H2 hy => ?_⟩
      obtain ⟨hx, d, hd, r⟩ := q3 i x H2 hlt hy
      have ed : items[i] = d := by rw [List.getElem?_eq_getElem hlt] at hd; exact Option.some.inj hd
      rw [ed] at hc
      have st2 : Step X.K X.mg μ H μ S H2 := Step.ext R hx
      have R2 := st2.rel
      have hD2 := st2.nin hDl hDm
      split at hc
      · cases hc
      · rename_i ρ1 hb1
        obtain ⟨k, S3, ek, hc⟩ := bind_eq_ok hc
        have E2 : EnvOk X.K μ H2 (wipeE ρ vs) (L2.wipe σ vs) := ((E1.step R1 st).step R st2).wipe vs
        refine ⟨μ, S, wipeE ρ vs, d, ρ1, R2, E2, r, hb1, fun σ2 E' hwp => ⟨?_, ?_⟩⟩
        · rw [hwp vs hsl]
          have key : ∀ us : List Nat, (∀ i ∈ us, i ∈ vs) → L2.wipe (L2.wipe σ us) vs = L2.wipe σ vs := by
            intro us
            induction us with
            | nil => intro _; rfl
            | cons u us ih =>
              intro h
              show L2.wipe ((L2.wipe σ us).set u none) vs = L2.wipe σ vs
              rw [wipe_set (h u (by simp))]
              exact ih fun i hi => h i (by simp [hi])
          exact key vs fun _ h => h
        · refine ⟨μ, S, ρ1, R2, E', fine_ok ek, fun k' S3' μ3 H3 e3 st3 => ?_⟩
          rw [ek] at e3
          cases e3
          have R3 := st3.rel
          have hD3 := st3.nin hD2.2 hD2.1
          have st123 := (st.trans R1 st2).trans R1 st3
          have racc3 := st3.repL R2 (st2.repL R racc)
          cases k with
          | false =>
            rw [if_neg Bool.false_ne_true] at hc ⊢
            exact ⟨hlt, μ3, S3, accd, accv, esr, st123, hD3.1, hD3.2, racc3, by omega, hc, hes⟩
          | true =>
            rw [if_pos rfl] at hc ⊢
            obtain ⟨e, S4, ee, hc⟩ := bind_eq_ok hc
            obtain ⟨es2, S5, e5, hc⟩ := bind_eq_ok hc
            cases hc
            refine ⟨μ3, S3, ρ1, R3, E'.step R2 st3, fine_ok ee, fun e' S4' y μ4 H4 e4 st4 x4 => ?_⟩
            rw [ee] at e4
            cases e4
            have hD4 := st4.nin hD3.2 hD3.1
            have st1234 := st123.trans R1 st4
            have racc4 := st4.repL R3 racc3
            have x5 : ResOk X.K X.mg μ4 H1 H4 e y := x4.back R1 st123
            -- the value is new to the list, too
            obtain ⟨μ5, st5, r5, ext5, em5⟩ := st1234.box x5
            have hD5 : D ∉ μ5 := by
              unfold ResOk at x4
              have l5 := st5.rel.len
              unfold Ev.box at l5
              cases hcell : e.cell? with
              | none =>
                rw [hcell, em5] at l5
                have l0 := st4.rel.len
                rw [List.length_append] at l5
                have : ext5 = [] := List.length_eq_zero_iff.mp (by simp only at l5; omega)
                rw [em5, this, List.append_nil]
                exact hD4.1
              | some c =>
                rw [hcell] at x4
                obtain ⟨a, ea, _, _, hn⟩ := x4
                unfold Ev.box at r5
                rw [hcell] at r5
                simp only at r5
                unfold Rep at r5
                obtain ⟨a', ha', ea'⟩ := r5
                rw [ea] at ea'
                cases ea'
                rw [hcell, em5] at l5
                have l0 := st4.rel.len
                rw [List.length_append] at l5
                have hlen : ext5.length = 1 := by simp at l5; omega
                obtain ⟨z, rfl⟩ := List.length_eq_one_iff.mp hlen
                rw [em5, List.getElem?_append_right (by omega)] at ha'
                rw [show S4.length - μ4.length = 0 by omega] at ha'
                simp at ha'
                subst ha'
                intro hm
                rw [em5] at hm
                rcases List.mem_append.mp hm with q | q
                · exact hD4.1 q
                · simp at q
                  subst q
                  rw [hD3.2] at hn
                  cases hn
            have R5 := st5.rel
            have racc5 : RepL X.K μ5 H4 accd accv := by rw [em5]; exact racc4.mono st4.rel.wr Keep.refl
            have hsz : accv.length < sizeLine := by
              have := racc.length
              omega
            refine ⟨accv, hD4.2, hsz, hlt, μ5, (box e S4).2, accd ++ [(box e S4).1], accv ++ [y], es2, ?_, hD5, upd_same, (racc5.append (RepL.cons r5 RepL.nil)).poke R5 hD4.2 hD5, by simp; omega, e5, by rw [hes, List.append_assoc]; rfl⟩
            obtain ⟨ext, em, _, kp, fr⟩ := st5
            refine ⟨ext, em, R5.poke hD4.2 hD5, fun a o ha hn => ?_, fr⟩
            rw [upd_ne (ne_of_none ha hD)]
            exact kp a o ha hn
    · cases hc
  · have e : i = items.length := by omega
    subst e
    rw [List.drop_length, compL] at hc
    split at hc
    · rename_i hgk
      injection hc with hc1 hc2
      subst hc1
      subst hc2
      rw [List.append_nil] at hes
      obtain ⟨_, q2, _⟩ := hJ μ _ H st hgk
      refine .inl ⟨q2, hQ _ μ H st ?_⟩
      rw [hes]
      exact ResOk.new (c := .lst accd) rfl ⟨0, 0, accv, trivial, hDl, trivial, racc⟩ hDm hD
    · cases hc
theorem ev_comp {elt tg iter : Expr} {ifs : List Expr} {scope : Scope} {own : List (Str × Nat)} {pos : Pos} {b : Bind} {sl : List Nat} {mi : M (List D × Guard)} {mt : M Bool} {me : M D} (hc : X.calm = true) (hN : X.N.Nodup) (hi : EvI X W tg iter mi) (ok : BlkOk X.N X.env.scope scope own)
    (hg : ∀ (s : Shared) (H : Hp) (C : Addr) (cl : List (Str × Addr)) (fp : List Addr), EvG (X.blk s H scope (compEnvC scope cl C X.env) fp) tg b sl)
    (ht : ∀ (s : Shared) (H : Hp) (C : Addr) (cl : List (Str × Addr)) (fp : List Addr), EvTf (X.blk s H scope (compEnvC scope cl C X.env) fp) W0 ifs mt)
    (he : ∀ (s : Shared) (H : Hp) (C : Addr) (cl : List (Str × Addr)) (fp : List Addr), EvE (X.blk s H scope (compEnvC scope cl C X.env) fp) W0 elt me) (hs : notSet iter = true) (hsl : ∀ i ∈ sl, i ∈ own.map (fun x => x.2)) :
    EvE X W (.ListComp elt [⟨tg, iter, ifs, 0⟩] scope pos) (mComp (own.map (·.2)) b mi mt me) := by
  refine EvE.of_pe (pe_lc hc hN hi ok (g := TGm X b sl) (tt := TMt X W0 mt) (te := TM X W0 me) (fun s H C cl fp => hg s H C cl fp) (fun s H C cl fp => (ht s H C cl fp).pts) (fun s H C cl fp => (he s H C cl fp).pe) (folded_notSet hs)) fun σ H μ S ρ R E F => ?_
  unfold mComp at F ⊢
  refine ⟨μ, S, ρ, R, E, F.left, fun p S1 μ1 H1 J e st hJ => ?_⟩
  have F1 := Fine.right R st F e
  split at F1
  · rename_i hz
    have R1 := st.rel
    cases hc2 : compL b mt me p.2 (wipeE ρ (own.map (·.2))) p.1 S1 with
    | ok es S2 =>
      have key := comp_good (Q := fun v H' => ∃ d S' μ', mComp (own.map (·.2)) b mi mt me ρ S = .ok d S' ∧ Step X.K X.mg μ H μ' S' H' ∧ ResOk X.K X.mg μ' H H' d v) rfl rfl (wi := TMi X W mi) hsl R1 (E.step R st) hJ hz hc2
        fun v μ' H' st' x => ⟨.lst es, S2, μ', by unfold mComp; rw [e, bind_ok, if_pos hz, hc2]; rfl, st.trans R st', x.back R st⟩
      exact key
    | exc _ _ _ _ => rw [hc2] at F1; exact F1.elim
    | fail => rw [hc2] at F1; exact F1.elim
  · exact F1.elim
end Ev
/-! EvG: room that tells too that no text is being made; a def's promise under it. -/
namespace Ev
open PySem PySem.Spec PyProof.Rows L2

/-- room, and no guard stands around -/
structure Rm (k : Nat) (A : Around) : Prop where
  rm : Room k A
  gd : A.guards = some []
section
variable {j k : Nat} {A : Around}
theorem Rm.mono (r : Rm k A) (h : j ≤ k) : Rm j A := ⟨r.rm.mono h, r.gd⟩
theorem Rm.units (r : Rm k A) : A.units + 64 < cLine := r.rm.units
theorem Rm.deeper (r : Rm (k + 1) A) (env : Env) : Rm k (A.deeper env) := ⟨r.rm.deeper env, r.gd⟩
theorem Rm.make (r : Rm (k + 1) A) (C : Addr) (us : List Value) (kw : List (Str × Value)) : Rm k (A.under (.builtin "type.__call__" ⟨.ref C :: us, kw⟩)) := by
  refine ⟨r.rm.make C us kw, ?_⟩
  have e : Code.guards (.builtin "type.__call__" ⟨.ref C :: us, kw⟩) = [] := by
    unfold Code.guards Code.isGuard
    rfl
  have z : (A.under (.builtin "type.__call__" ⟨.ref C :: us, kw⟩)).guards = pushGuards (Code.guards (.builtin "type.__call__" ⟨.ref C :: us, kw⟩)) A.guards := rfl
  rw [z, e, r.gd]; rfl
end
/-- a def's promise, under such a room -/
structure FnG (P : Program) (w : World) (K : PySem.W.Frag) (mg : Str → Option Value) (base : Heap) (CX : CXT) (k : Nat) (f : Addr) (fd : FuncData) (ps : List Str) (sp : Sp) : Prop where
  len : ∀ vs H Q E, sp vs H Q E → vs.length = ps.length
  run : ∀ (A : Around) (outer : List Env) (s : Shared) (H : Hp) (args : Args) (us : List Value) (vs : List V) (Q : VK) (E : XK),
    Rm k A → Env0 P w K mg base A outer s H → BindsTo s fd args (ps.zip us) → Vals vs us → sp vs H Q E →
      codeAny (model P w) A (.call (.ref f) args) (CR CX outer P w H s Q E) s
section
variable {P : Program} {w : World} {K : PySem.W.Frag} {mg : Str → Option Value} {base : Heap} {CX : CXT} {j k : Nat} {f : Addr} {fd : FuncData} {ps : List Str} {sp sp' : Sp}
theorem FnG.mono (F : FnG P w K mg base CX j f fd ps sp) (h : j ≤ k) : FnG P w K mg base CX k f fd ps sp := ⟨F.len, fun _ _ _ _ _ _ _ _ _ r => F.run _ _ _ _ _ _ _ _ _ (r.mono h)⟩
theorem FnG.imp (F : FnG P w K mg base CX k f fd ps sp) (h : ∀ vs H Q E, sp' vs H Q E → sp vs H Q E) : FnG P w K mg base CX k f fd ps sp' :=
  ⟨fun vs H Q E q => F.len vs H Q E (h _ _ _ _ q), fun _ _ _ _ _ _ _ _ _ r e b v q => F.run _ _ _ _ _ _ _ _ _ r e b v (h _ _ _ _ q)⟩
end
section
variable {X : Cx} {CX : CXT} {k : Nat} {f : Addr} {fd : FuncData} {ps : List Str} {sp : Sp} {E : XK}
/-- it runs -/
theorem run_fnG {pins : List (Addr × Obj)} {σ : L2.St} {H : Hp} {s : Shared} {Q : VK} {us : List Value} {vs : List V}
    (F : FnG X.prog X.w X.K X.mg X.base CX k f fd ps sp) (hr : Rm k X.A) (hb : Binds X.K fd ps []) (hx : PassesAt CX X σ E) (I : Inv X pins σ H s) (r : Vals vs us) (h : sp vs H Q E) :
    wpAny (model X.prog X.w) X.A (call (.ref f) us) (EP X pins σ Q) X.xe s := by
  have hl : us.length = ps.length := r.length ▸ F.len _ _ _ _ h
  have b := hb s us I.kIn (by simpa using hl)
  rw [List.append_nil] at b
  refine wpAny_call (codeAny_mono (F.run _ _ _ _ _ _ _ _ _ hr I.env0 b r h) fun res s' hq => ?_)
  rcases res with e | fl
  · exact hx pins H s e s' I hq
  · cases fl <;> first | exact I.after hq | exact False.elim hq
end
/-- a def of the text by its body -/
theorem fnG_of {CX : CXT} {P : Program} {w : World} {K : PySem.W.Frag} {mg : Str → Option Value} {base : Heap} {k : Nat} {f : Addr} {name qual : Str} {params : Arguments} {body : List Stmt} {scope : Scope}
    {dV kV doc pm cdv ct oc : Value} {an od : Option Addr} {osl : Array (Option Value)} {N ps : List Str} {sp : Sp}
    (lk : K.lookup f = some ⟨oc, od, .func (PySem.W.fnOf name qual params body scope dV kV doc pm an cdv ct), osl⟩) (hcd : PySem.W.codeIn K cdv qual = true) (Sc : FnScope N ps scope)
    (len : ∀ vs H Q E, sp vs H Q E → vs.length = ps.length)
    (hbody : ∀ (A : Around) (outer : List Env) (s : Shared) (H : Hp) (vs : List V) (Q : VK) (E : XK), Rm k (A.deeper (envOfC qual scope s.heap.objs.size f cdv)) → sp vs H Q E →
      ∃ t, PSs (cxOf CX P w K mg base N qual scope f cdv A outer s H E) body t ∧ t { nx := fun _ H' => Q .non H', rt := Q } (L2.start N vs) H) :
    FnG P w K mg base CX (k + 1) f (PySem.W.fnOf name qual params body scope dV kV doc pm an cdv ct) ps sp := by
  refine ⟨len, fun A outer s H args us vs Q E r e0 hb rv q => ?_⟩
  have kept : ∀ b o, base.get? b = some o → s.heap.get? b = some o := fun b o e => (e0.bs b o e).1
  have KX : K.In s.heap := e0.mod.kin.keeps kept
  have kinds : ∀ y ∈ ps.zip us, scope.names.lookup y.1 = some .local ∨ (scope.names.lookup y.1 = some .cell ∧ ((cellsFrom (s.heap.objs.size + 1) scope.names []).lookup y.1).isSome = true) := by
    rintro ⟨n, v⟩ hy
    exact (Sc.par n (List.of_mem_zip hy).1).imp id fun z => ⟨z, PySem.W.cellsFrom_some _ _ _ (.inl z)⟩
  refine codeAny_call_function r.rm.depth (KX _ _ lk) rfl Sc.co Sc.gen rfl (PySem.W.codeRec_of KX hcd) (hb _ _ _ _ ?_)
  refine wpAny_newFunctionEnv_cells Sc.kind kinds fun env he s1 x => ?_
  cases he
  refine ⟨(e0.mod.nolimit.keeps kept).keeps x.toInCall.keep, codeAny_func ?_⟩
  obtain ⟨t, ht, hq⟩ := hbody A outer s H vs Q E (r.deeper _) q
  have I := inv_start (CX := CX) (E := E) (f := f) (cd := cdv) (qual := qual) Sc r.rm.hd e0 (len _ _ _ _ q) rv x
  refine wpAny_mono (ht.run [] s1 _ H _ I hq) (fun fl s' hs => ?_) fun e s' hs => hs
  cases fl with
  | ret u =>
    obtain ⟨v, _, H', J, r2, q2⟩ := hs
    exact ⟨v, H', J.os, J.bare, J.base, J.hok, r2, q2⟩
  | next =>
    obtain ⟨_, H', J, q2⟩ := hs
    exact ⟨V.non, H', J.os, J.bare, J.base, J.hok, rfl, q2⟩
  | _ =>
    obtain ⟨_, _, _, q2⟩ := hs
    exact False.elim q2
/-! ### the law's own call -/
/-- the state at the law's call, with at most the script known -/
structure At1 (P : Program) (w : World) (H : Hp) (s : Shared) (a : Addr) : Prop where
  ok : HOk P w H s.heap
  one : ∀ b, H b ≠ none → b = a
  only : Only H
theorem At1.off {P : Program} {w : World} {H : Hp} {s : Shared} {a b : Addr} {o : Obj} {arr : Array Value} (t : At1 P w H s a) (ha : s.heap.get? a = some { cls := .type "list", data := .seq arr })
    (e : s.heap.get? b = some o) (hd : ∀ es ep, o.data = .dict es ep → True) (hdict : ∃ es ep, o.data = .dict es ep) : H b = none := by
  apply Classical.byContradiction
  intro n
  obtain ⟨es, ep, d⟩ := hdict
  rw [t.one b n, ha] at e
  obtain rfl := Option.some.inj e
  exact Data.noConfusion d
end Ev
/-! Ev7: defs called, methods, fields, instances made, errors raised and caught. -/
namespace Ev
open PySem PySem.Spec PyProof.Rows L2
variable {X : Cx} {W : WX}

/-- as Step, where the objects at xs are handed over -/
def StepX (K : PySem.W.Frag) (mg : Str → Option Value) (xs : List Addr) (μ : List Addr) (H : Hp) (μ' : List Addr) (S' : Store) (H' : Hp) : Prop :=
  ∃ ext, μ' = μ ++ ext ∧ Rel K mg μ' S' H' ∧ (∀ a o, H a = some o → a ∉ μ → a ∉ xs → H' a ≠ none ∧ ((∀ ps, o ≠ .tbl ps) → H' a = some o)) ∧ ∀ a ∈ ext, H a = none ∨ a ∈ xs
def ResX (K : PySem.W.Frag) (mg : Str → Option Value) (xs : List Addr) (μ : List Addr) (H0 H : Hp) (d : D) (v : V) : Prop := match d.cell? with
  | some c => ∃ a, v = .ref a ∧ CellOk K mg μ H a c ∧ a ∉ μ ∧ (H0 a = none ∨ a ∈ xs)
  | none => Rep K μ H d v
section
variable {K : PySem.W.Frag} {mg : Str → Option Value} {xs : List Addr} {μ0 μ μ1 : List Addr} {H0 H H1 : Hp} {S0 S S1 : Store}
theorem StepX.step (R0 : Rel K mg μ0 S0 H0) (st : Step K mg μ0 H0 μ S H) (x : StepX K mg xs μ H μ1 S1 H1) (hx : ∀ a ∈ xs, H0 a = none) : Step K mg μ0 H0 μ1 S1 H1 := by
  have bk := fun {a} (h : H a = none) => st.back R0 h
  obtain ⟨e1, q1, R1, k1, f1⟩ := st
  obtain ⟨e2, q2, R2, k2, f2⟩ := x
  subst q1
  refine ⟨e1 ++ e2, by rw [q2, List.append_assoc], R2, fun a o h hm => ?_, fun a ha => ?_⟩
  · have n1 : a ∉ μ0 ++ e1 := fun hm1 => by
      rcases List.mem_append.mp hm1 with z | z
      · exact hm z
      · rw [f1 a z] at h; cases h
    have n2 : a ∉ xs := fun hxs => by rw [hx a hxs] at h; cases h
    obtain ⟨q1, q2⟩ := k1 a o h hm
    cases q : H a with
    | none => exact absurd q q1
    | some o1 => exact ⟨(k2 a o1 q n1 n2).1, fun nt => (k2 a o (q2 nt) n1 n2).2 nt⟩
  · rcases List.mem_append.mp ha with z | z
    · exact f1 a z
    · rcases f2 a z with z | z
      · exact bk z
      · exact hx a z
theorem ResX.res {d : D} {v : V} (R0 : Rel K mg μ0 S0 H0) (st : Step K mg μ0 H0 μ S H) (x : ResX K mg xs μ1 H H1 d v) (hx : ∀ a ∈ xs, H0 a = none) : ResOk K mg μ1 H0 H1 d v := by
  unfold ResX at x
  unfold ResOk
  cases hc : d.cell? with
  | none => rw [hc] at x; exact x
  | some c =>
    rw [hc] at x
    obtain ⟨a, rfl, h1, h2, h3⟩ := x
    refine ⟨a, rfl, h1, h2, ?_⟩
    rcases h3 with h3 | h3
    · exact st.back R0 h3
    · exact hx a h3
theorem ResL.any {ds : List D} {vs : List V} (r : ResL K mg μ H0 H ds vs) : ResL K mg μ (fun _ => none) H ds vs := by
  induction r with
  | nil => exact .nil
  | cons x r n ih =>
    refine .cons ?_ ih n
    unfold ResOk at x ⊢
    split at x
    · obtain ⟨a, e, h1, h2, _⟩ := x
      exact ⟨a, e, h1, h2, rfl⟩
    · exact x

/-! ### the store behind a call -/
open Classical in
noncomputable def closeD (S : Store) (d : D) (S2 : Store) : D × Store := if Clean S S2 then
    if d.lo S.length = true then (d, S2.take S.length) else match d with
      | .ref k => match S2[k]? with
        | some c => if c.lo S.length = true then (c.d, S2.take S.length) else (d, S2)
        | none => (d, S2)
      | d => (d, S2)
  else (d, S2)
theorem cell_d {c : Cell} (h : c.pln = true) : c.d.cell? = some c := by cases c <;> first | rfl | cases h
theorem CellOk.cut {a : Addr} {c : Cell} {ext : List Addr} (h : CellOk K mg (μ ++ ext) H a c) (l : c.lo μ.length = true) : CellOk K mg μ H a c := by
  have l := (Cell.lo_pln l).2
  rcases c.pln_or with hc | ⟨P, nm, rfl⟩
  · obtain ⟨C, dx, vs, q1, q2, q3, q4⟩ := (cellOk_iff hc).mp h
    exact (cellOk_iff hc).mpr ⟨C, dx, vs, q1, q2, q3, q4.cut l⟩
  · exact h
theorem lo_cell {d : D} {c : Cell} {n : Nat} (h : d.cell? = some c) (l : d.lo n = true) : c.lo n = true := by
  cases d <;> first | (cases h; exact l) | cases h
theorem closeD_ok {d : D} {v : V} (R : Rel K mg μ S H) (st : StepX K mg xs μ H μ1 S1 H1) (x : ResX K mg xs μ1 H H1 d v) :
    ∃ μ2, StepX K mg xs μ H μ2 (closeD S d S1).2 H1 ∧ ResX K mg xs μ2 H H1 (closeD S d S1).1 v := by
  have same : ∃ μ2, StepX K mg xs μ H μ2 S1 H1 ∧ ResX K mg xs μ2 H H1 d v := ⟨μ1, st, x⟩
  unfold closeD
  split
  · rename_i hc
    obtain ⟨ext, e1, R1, k1, f1⟩ := id st
    subst e1
    have Rc : Rel K mg μ (S1.take S.length) H1 := R.cut R1 hc
    have stc : StepX K mg xs μ H μ (S1.take S.length) H1 := ⟨[], by simp, Rc, k1, fun _ h => nomatch h⟩
    have hl := R.len
    split
    · rename_i hlo
      refine ⟨μ, stc, ?_⟩
      unfold ResX at x ⊢
      cases hcell : d.cell? with
      | none =>
        rw [hcell] at x
        exact Rep.cut x (by rw [hl]; exact hlo)
      | some c =>
        rw [hcell] at x
        obtain ⟨a, rfl, h1, h2, h3⟩ := x
        exact ⟨a, rfl, h1.cut (by rw [hl]; exact lo_cell hcell hlo), fun z => h2 (List.mem_append_left _ z), h3⟩
    · rename_i hlo
      split
      · rename_i k
        split
        · rename_i c hk
          split
          · rename_i hcl
            refine ⟨μ, stc, ?_⟩
            unfold ResX at x ⊢
            have x : Rep K (μ ++ ext) H1 (.ref k) v := x
            unfold Rep at x
            obtain ⟨a, ha, rfl⟩ := x
            rw [cell_d (Cell.lo_pln hcl).1]
            have hkn : ¬ k < S.length := fun z => hlo (by unfold D.lo; exact decide_eq_true z)
            have hkm : μ.length ≤ k := by omega
            have hax : a ∈ ext := by
              rw [List.getElem?_append_right hkm] at ha
              exact List.mem_of_getElem? ha
            refine ⟨a, rfl, (R1.cell k a c ha hk).cut (by rw [hl]; exact hcl), fun z => ?_, f1 a hax⟩
            have := R1.nd
            rw [List.nodup_append] at this
            exact this.2.2 a z a hax rfl
          · exact same
        · exact same
      · exact same
  · exact same
open Classical in
/-- an error's fields -/
noncomputable def closeL (S : Store) (ds : List D) (S2 : Store) : Store := if Clean S S2 ∧ loL S.length ds = true then S2.take S.length else S2
theorem ExcRep.cut {c : Str} {ks : List Str} {ds : List D} {cls : Value} {dx : Option Addr} {ext : List Addr} (h : ExcRep K mg (μ ++ ext) H c ks ds cls dx) (l : loL μ.length ds = true) : ExcRep K mg μ H c ks ds cls dx := by
  obtain ⟨C, h1, h2, h3⟩ := h
  refine ⟨C, h1, h2, ?_⟩
  cases dx with
  | none => exact h3
  | some x => obtain ⟨vs, q1, q2, q3⟩ := h3; exact ⟨vs, q1, q2, q3.cut l⟩
theorem closeL_ok {c : Str} {ks : List Str} {ds : List D} {cls : Value} {dx : Option Addr} (R : Rel K mg μ S H) (st : StepX K mg xs μ H μ1 S1 H1) (x : ExcRep K mg μ1 H1 c ks ds cls dx) :
    ∃ μ2, StepX K mg xs μ H μ2 (closeL S ds S1) H1 ∧ ExcRep K mg μ2 H1 c ks ds cls dx := by
  unfold closeL
  split
  · rename_i hc
    obtain ⟨ext, e1, R1, k1, f1⟩ := st
    subst e1
    exact ⟨μ, ⟨[], by simp, R.cut R1 hc.1, k1, fun _ h => nomatch h⟩, x.cut (by rw [R.len]; exact hc.2)⟩
  · exact ⟨μ1, st, x⟩
end

/-! ### what a def promises -/
abbrev Fn := List D → Store → Out D
def spOf (K : PySem.W.Frag) (mg : Str → Option Value) (n : Nat) (f : Fn) : Sp := fun vs H Q E => ∃ μ S ds, Rel K mg μ S H ∧ ResL K mg μ (fun _ => none) H ds vs ∧ ds.length = n ∧ match f ds S with
  | .ok d S' => ∀ v μ' H', StepX K mg (newA ds vs) μ H μ' S' H' → ResX K mg (newA ds vs) μ' H H' d v → Q v H'
  | .exc c ks es S' => ∀ cls dx μ' H', StepX K mg (newA ds vs) μ H μ' S' H' → ExcRep K mg μ' H' c ks es cls dx → E cls dx H'
  | .fail => False
/-- a body as a function: the new things handed in are held by its slots -/
noncomputable def runBody (body : MS) (slots : Nat) : Fn := fun ds S => match body ((boxL ds S).1.map some ++ List.replicate (slots - ds.length) none) (boxL ds S).2 with
  | .next ρ S2 => .ok .non (closeD S .non S2).2
  | .ret d S2 => .ok (closeD S d S2).1 (closeD S d S2).2
  | .exc c ks es ρ S2 => .exc c ks es (closeL S es S2)
  | _ => .fail
section
variable {K : PySem.W.Frag} {mg : Str → Option Value}
theorem start_env {μ : List Addr} {H : Hp} {ds : List D} {vs : List V} {N : List Str} (r : RepL K μ H ds vs) : EnvOk K μ H (ds.map some ++ List.replicate (N.length - ds.length) none) (L2.start N vs) := by
  unfold L2.start
  refine ⟨by simp [r.length], fun i d h => ?_⟩
  by_cases hi : i < ds.length
  · rw [List.getElem?_append_left (by simpa using hi), List.getElem?_map] at h
    cases hd : ds[i]? with
    | none => rw [hd] at h; cases h
    | some e =>
      rw [hd] at h
      cases h
      obtain ⟨v, e1, r1⟩ := r.get hd
      exact ⟨v, by rw [List.getElem?_append_left (by rw [List.length_map, ← r.length]; exact hi), List.getElem?_map, e1]; rfl, r1⟩
  · rw [List.getElem?_append_right (by simpa using hi), List.getElem?_replicate] at h
    split at h <;> cases h
/-- the reading of a body from the promise -/
theorem body_good {X : Cx} (hK : X.K = K) (hmg : X.mg = mg) {body : MS} {N : List Str} {n : Nat} {vs : List V} {H : Hp} {Q : VK} {E : XK} (h : spOf K mg n (runBody body N.length) vs H Q E) :
    TMs X (fun cls dx _ H => E cls dx H) body { nx := fun _ H' => Q .non H', rt := Q } (L2.start N vs) H := by
  subst hK
  subst hmg
  obtain ⟨μ, S, ds, R, hl, hn, h⟩ := h
  have st0 : Step X.K X.mg [] (fun _ => none) μ S H := ⟨μ, rfl, R, (fun a o z _ => by cases z), fun _ _ => rfl⟩
  obtain ⟨ext, st1, r1, hext⟩ := Step.boxL hl st0
  have R1 := st1.rel
  have hlen : (boxL ds S).1.length = ds.length := by rw [r1.length, ← hl.length]
  have hnew := hl.new
  have hE := start_env (N := N) r1
  rw [hlen] at hE
  refine ⟨μ ++ ext, (boxL ds S).2, _, R1, hE, ?_⟩
  -- seen from the promise
  have see : ∀ {μ' : List Addr} {S' : Store} {H' : Hp}, Step X.K X.mg (μ ++ ext) H μ' S' H' → StepX X.K X.mg (newA ds vs) μ H μ' S' H' := fun {μ' S' H'} st => by
    obtain ⟨e2, q2, R2, k2, f2⟩ := st
    refine ⟨ext ++ e2, by rw [q2, List.append_assoc], R2, fun a o ha hm hx => k2 a o ha (fun z => ?_), fun a ha => ?_⟩
    · rcases List.mem_append.mp z with z | z
      · exact hm z
      · exact hx (hext a z)
    · rcases List.mem_append.mp ha with z | z
      · exact .inr (hext a z)
      · exact .inl (f2 a z)
  have seeR : ∀ {μ' : List Addr} {H' : Hp} {d : D} {v : V}, ResOk X.K X.mg μ' H H' d v → ResX X.K X.mg (newA ds vs) μ' H H' d v := fun {μ' H' d v} x => by
    unfold ResOk at x
    unfold ResX
    cases hc : d.cell? with
    | some c =>
      rw [hc] at x
      obtain ⟨a, e, h1, h2, h3⟩ := x
      exact ⟨a, e, h1, h2, .inl h3⟩
    | none => rw [hc] at x; exact x
  unfold runBody at h
  cases hb : body ((boxL ds S).1.map some ++ List.replicate (N.length - ds.length) none) (boxL ds S).2 with
  | next ρ S2 =>
    rw [hb] at h
    intro σ' μ' H' st E'
    obtain ⟨μ2, s2, x2⟩ := closeD_ok R (see st) (seeR (res_non (H0 := H)))
    have hz : (closeD S .non S2).1 = .non := by unfold closeD; split <;> rfl
    rw [hz] at x2
    exact h .non μ2 H' s2 x2
  | brk ρ S2 => rw [hb] at h; exact h.elim
  | cont ρ S2 => rw [hb] at h; exact h.elim
  | fail => rw [hb] at h; exact h.elim
  | ret d S2 =>
    rw [hb] at h
    intro v μ' H' st x
    obtain ⟨μ2, s2, x2⟩ := closeD_ok R (see st) (seeR x)
    exact h v μ2 H' s2 x2
  | exc c ks es ρ S2 =>
    rw [hb] at h
    intro cls dx σ' μ' H' st E' x
    obtain ⟨μ2, s2, x2⟩ := closeL_ok R (see st) x
    exact h cls dx μ2 H' s2 x2
/-- a def keeps the promise of its body -/
theorem fn_ok {P : Program} {w : World} {base : Heap} {x qual : Str} {st : Stmt} {f : Addr} {fd : FuncData} {N ps : List Str} {k : Nat} {body : MS} (F : Fun K x qual st f fd) (Sc : FnScope N ps (defScope st))
    (hbody : ∀ (cdv : Value) (A : Around) (outer : List Env) (s : Shared) (H : Hp) (E : XK), Rm k (A.deeper (envOfC qual (defScope st) s.heap.objs.size f cdv)) →
      EvSs (cxOf (L2N.CX P w) P w K mg base N qual (defScope st) f cdv A outer s H E) (fun cls dx _ H => E cls dx H) (defBody st) body) : FnG P w K mg base (L2N.CX P w) (k + 1) f fd ps (spOf K mg ps.length (runBody body N.length)) := by
  obtain ⟨oc, od, kV, doc, pm, an, cdv, ct, osl, rfl, lk, hcd⟩ := F.ex
  refine fnG_of lk hcd Sc (fun vs H Q E h => ?_) (fun A outer s H vs Q E hr h => ?_)
  · obtain ⟨μ, S, ds, _, hl, hn, _⟩ := h
    rw [← hl.length]; exact hn
  · exact ⟨_, hbody cdv A outer s H E hr, body_good rfl rfl h⟩
end

/-! ### calls -/
/-- a def that may be called: x's def keeps the promise of f -/
structure CallOk (X : Cx) (x : Str) (n : Nat) (f : Fn) : Prop where
  ex : ∃ (a : Addr) (fd : FuncData) (ps : List Str) (k : Nat), X.mg x = some (.ref a) ∧ PySem.W.keepIn X.K (.ref a) = true ∧ Binds X.K fd ps [] ∧ Rm k X.A ∧ FnG X.prog X.w X.K X.mg X.base (L2N.CX X.prog X.w) k a fd ps (spOf X.K X.mg n f)
/-- a method of a class -/
structure MethOk (X : Cx) (C : Addr) (m : Str) (n : Nat) (f : Fn) : Prop where
  cl : Cls X.K C
  ex : ∃ (a : Addr) (fd : FuncData) (ps : List Str) (k : Nat), Meth X.K C m a ∧ Binds X.K fd ps [] ∧ Rm k X.A ∧ FnG X.prog X.w X.K X.mg X.base (L2N.CX X.prog X.w) k a fd ps (spOf X.K X.mg n f)
/-- a def is run -/
theorem run_ok {pins : List (Addr × Obj)} {σ : L2.St} {H0 H : Hp} {s : Shared} {us : List Value} {vs : List V} {μ0 μ : List Addr} {S0 S : Store} {ds : List D} {n k : Nat} {f : Fn} {a : Addr} {fd : FuncData} {ps : List Str}
    (tk : L2N.Takes X W) (hb : Binds X.K fd ps []) (hr : Rm k X.A) (Fk : FnG X.prog X.w X.K X.mg X.base (L2N.CX X.prog X.w) k a fd ps (spOf X.K X.mg n f))
    (R0 : Rel X.K X.mg μ0 S0 H0) (st : Step X.K X.mg μ0 H0 μ S H) (I : Inv X pins σ H s) (rv : Vals vs us) (rl : ResL X.K X.mg μ H0 H ds vs) (hn : ds.length = n) (F : Fine X.K X.mg W μ H σ (f ds S)) (hexc : ∀ (c : Str) ks es S', f ds S = .exc c ks es S' → ∀ cls dx μ' H', Step X.K X.mg μ0 H0 μ' S' H' → ExcRep X.K X.mg μ' H' c ks es cls dx → W cls dx σ H') :
    wpAny (model X.prog X.w) X.A (call (.ref a) us) (fun u s' => ∃ d S' v μ' H', f ds S = .ok d S' ∧ Inv X pins σ H' s' ∧ RelV v u ∧ Step X.K X.mg μ0 H0 μ' S' H' ∧ ResOk X.K X.mg μ' H0 H' d v) X.xe s := by
  have hx : ∀ a ∈ newA ds vs, H0 a = none := fun a ha => (rl.new a ha).2.2
  refine thn (run_fnG (E := WE W σ) (Q := fun v H' => ∃ d S' μ', f ds S = .ok d S' ∧ Step X.K X.mg μ0 H0 μ' S' H' ∧ ResOk X.K X.mg μ' H0 H' d v) Fk hr hb (L2N.passAt tk σ) I rv ?_) fun u s' ⟨v, H', I', r, d, S', μ', e, s2, x⟩ => ⟨d, S', v, μ', H', e, I', r, s2, x⟩
  refine ⟨μ, S, ds, st.rel, rl.any, hn, ?_⟩
  cases hf : f ds S with
  | ok d S' => exact fun v μ' H' s2 x => ⟨d, S', μ', rfl, s2.step R0 st hx, x.res R0 st hx⟩
  | exc c ks es S' => exact fun cls dx μ' H' s2 x => hexc c ks es S' hf cls dx μ' H' (s2.step R0 st hx) x
  | fail => rw [hf] at F; exact F
def noStars : List Expr → Bool
  | [] => true
  | e :: es => notStar e && noStars es
theorem noStars_any {es : List Expr} {env : Env} {pos : Pos} (h : noStars es = true) : (backTo pos (starEach es env)).any (·.1) = false := by
  induction es with
  | nil => rfl
  | cons e es ih =>
    unfold noStars at h
    rw [Bool.and_eq_true] at h
    rw [star_of h.1]
    show (false || (backTo pos (starEach es env)).any (·.1)) = false
    rw [ih h.2]; rfl
def mCall (n : Nat) (f : Fn) (m : M (List D)) : M D := fun ρ S => (m ρ S).bind fun ds S1 => if ds.length = n then f ds S1 else .fail
theorem ev_call {x : Str} {e : Expr} {es : List Expr} {p pos : Pos} {n : Nat} {f : Fn} {m : M (List D)} (tk : L2N.Takes X W) (hg : Gl X x) (hc : CallOk X x n f) (ha : EvA X W (e :: es) m) (hs : noStars (e :: es) = true) (hdb : (x == ("__debug__" : Str)) = false) :
    EvE X W (.Call (.Name x p) (e :: es) [] pos) (mCall n f m) := by
  obtain ⟨a, fd, ps, k, hm, hk, hb, hr, Fk⟩ := hc.ex
  refine ⟨fun pins s σ H μ S ρ I R E F => ?_⟩
  unfold mCall at F ⊢
  have go : ∀ (us : List Value) (s1 : Shared) ds S1 vs μ1 H1, m ρ S = .ok ds S1 → Inv X pins σ H1 s1 → Vals vs us → Step X.K X.mg μ H μ1 S1 H1 → ResL X.K X.mg μ1 H H1 ds vs →
      wpAny (model X.prog X.w) X.A (call (.ref a) us) (EvP X pins σ μ H H ((m ρ S).bind fun ds S1 => if ds.length = n then f ds S1 else .fail)) X.xe s1 := by
    intro us s1 ds S1 vs μ1 H1 e1 I1 r1 st1 x1
    have F1 := Fine.right R st1 F e1
    split at F1
    · rename_i hn
      refine thn (run_ok tk hb hr Fk R st1 I1 r1 x1 hn F1 fun c ks es S' e cls dx μ' H' s2 x => ?_) fun u s' ⟨d, S', v, μ', H', e, I', r, s2, x⟩ => ⟨d, S', v, μ', H', by rw [e1, bind_ok, if_pos hn]; exact e, I', r, s2, x⟩
      have F' := F
      rw [e1, bind_ok, if_pos hn, e] at F'
      exact F' cls dx μ' H' s2 x
    · exact F1.elim
  refine wpAny_Call_Name_kw (ld_glob I hg hm ?_ hdb)
  unfold noStars at hs
  rw [Bool.and_eq_true] at hs
  refine PySem.W.callWith_K (h₀ := X.base) I.ok.mod.kin hk (thn (ha.run pos pins s σ H μ S ρ I R E F.left) fun us s1 ⟨ds, S1, vs, μ1, H1, e1, I1, r1, st1, x1⟩ => ⟨I1.kIn, ?_⟩) (star_of hs.1) (noStars_any hs.2)
  exact go us s1 ds S1 vs μ1 H1 e1 I1 r1 st1 x1
/-! ### methods -/
def notCall0 : Expr → Bool
  | .Call (.Name _ _) [] [] _ => false
  | _ => true
theorem base_of {o : Expr} (h : notCall0 o = true) {m : Str} {env : Env} (w : Sem Value) : attributeBase o m env w = w := by
  cases o with
  | Call f args kws p =>
    cases f <;> first | rfl | (cases args <;> cases kws <;> first | rfl | cases h)
  | _ => rfl
def objOf (S : Store) : D → Option (Str × List Str × List D)
  | .obj c ks ds => some (c, ks, ds)
  | .ref n => match S[n]? with
    | some (.obj c ks ds) => some (c, ks, ds)
    | _ => none
  | _ => none
section
variable {K : PySem.W.Frag} {mg : Str → Option Value} {μ : List Addr} {H0 H : Hp} {S : Store} {d : D} {v : V} {c : Str} {ks : List Str} {ds : List D}
end
/-- the methods of a name, by the classes -/
abbrev MTab := Str → Option (Nat × Fn)
def mMeth (t : MTab) (m : Str) (mo : M D) (ma : M (List D)) : M D := fun ρ S => (mo ρ S).bind fun d S1 => match objOf S1 d with
  | some (c, ks, _) => if m ∈ ks then .fail else match t c with
    | some (n, f) => (ma ρ S1).bind fun ds S2 => if ds.length + 1 = n then f (d :: ds) S2 else .fail
    | none => .fail
  | none => .fail
/-! ### fields -/
def lookO (f : Str) : List Str → List D → Option D
  | k :: ks, d :: ds => if f = k then some d else lookO f ks ds
  | _, _ => none
/-- a class whose instances' field may be read and stored -/
structure FldOk (X : Cx) (C : Addr) (f : Str) : Prop where
  cl : Cls X.K C
  no : NoAttr X.K C f
def mFld (t : Str → Bool) (f : Str) (mo : M D) : M D := fun ρ S => (mo ρ S).bind fun d S1 => match objOf S1 d with
  | some (c, ks, ds) => if t c = true then Out.of (lookO f ks ds) S1 else .fail
  | none => .fail
def putO (f : Str) (d : D) : List Str → List D → List Str × List D
  | k :: ks, e :: ds => if k = f then (k :: ks, d :: ds) else (k :: (putO f d ks ds).1, e :: (putO f d ks ds).2)
  | _, _ => ([f], [d])
/-- o.f = e -/
def sFldE (t : Str → Bool) (f : Str) (me mo : M D) : MS := fun ρ S => (me ρ S).s ρ fun d S1 => (mo ρ (box d S1).2).s ρ fun o S2 => match o with
  | .ref n => match S2[n]? with
    | some (.obj c ks ds) => if t c = true ∧ ks.length < 1000 then .next ρ (S2.set n (.obj c (putO f (box d S1).1 ks ds).1 (putO f (box d S1).1 ks ds).2)) else .fail
    | _ => .fail
  | _ => .fail
/-! ### a new instance -/
structure MakeOk (X : Cx) (x : Str) (n : Nat) (f : Fn) : Prop where
  ex : ∃ (C a : Addr) (fd : FuncData) (ps : List Str) (k : Nat), X.mg x = some (.ref C) ∧ Mk X.K C a ∧ Binds X.K fd ps [] ∧ Rm (k + 1) X.A ∧ FnG X.prog X.w X.K X.mg X.base (L2N.CX X.prog X.w) k a fd ps (spOf X.K X.mg n f)
noncomputable def mMake (x : Str) (n : Nat) (f : Fn) (ma : M (List D)) : M D := fun ρ S => (ma ρ S).bind fun ds S1 => if ds.length + 1 = n then
    (f (.ref S1.length :: ds) (S1 ++ [.obj x [] []])).bind fun d S2 => match d with
      | .non => .ok (closeD S1 (.ref S1.length) S2).1 (closeD S1 (.ref S1.length) S2).2
      | _ => .fail
  else .fail

theorem ResL.more {K : PySem.W.Frag} {mg : Str → Option Value} {μ : List Addr} {H0 H : Hp} {ds : List D} {vs : List V} {p : Addr} (hw : ∀ a ∈ μ, Wr H a) (hp : p ∉ newA ds vs) (r : ResL K mg μ H0 H ds vs) : ResL K mg (μ ++ [p]) H0 H ds vs := by
  induction r with
  | nil => exact .nil
  | cons x r n ih =>
    rename_i d ds v vs
    have hp2 : p ∉ newA ds vs := fun ha => hp (by
      unfold newA
      split
      · exact List.mem_cons_of_mem _ ha
      · exact ha)
    refine .cons ?_ (ih hp2) n
    unfold ResOk at x ⊢
    cases hc : d.cell? with
    | none => rw [hc] at x; exact x.mono hw Keep.refl
    | some c =>
      rw [hc] at x
      obtain ⟨a, rfl, h1, h2, h3⟩ := x
      refine ⟨a, rfl, h1.more hw, fun hm => ?_, h3⟩
      rcases List.mem_append.mp hm with z | z
      · exact h2 z
      · simp at z
        subst z
        exact hp (by unfold newA; rw [hc]; exact List.mem_cons_self)
theorem ResL.keep {K : PySem.W.Frag} {mg : Str → Option Value} {μ : List Addr} {H0 H H' : Hp} {S : Store} {ds : List D} {vs : List V} (R : Rel K mg μ S H) (k : Ext H H') (r : ResL K mg μ H0 H ds vs) : ResL K mg μ H0 H' ds vs :=
  r.step R (Step.ext R k)
end Ev
/-! Ev8: built-ins by values. -/
namespace Ev
open PySem PySem.Spec PyProof.Rows L2
variable {X : Cx} {W : WX}

/-- a call of a known value, the store unchanged -/
def CallD (X : Cx) (fv : Value) (g : List D → Store → Option D) : Prop :=
  ∀ (pins : List (Addr × Obj)) (s : Shared) (σ : L2.St) (H : Hp) (μ : List Addr) (S : Store) (H0 : Hp) (ds : List D) (vs : List V) (us : List Value) (r : D), Inv X pins σ H s → Rel X.K X.mg μ S H → ResL X.K X.mg μ H0 H ds vs → Vals vs us → g ds S = some r →
    wpAny (model X.prog X.w) X.A (call fv us) (fun u s' => ∃ v' H', Inv X pins σ H' s' ∧ RelV v' u ∧ Step X.K X.mg μ H μ S H' ∧ ResOk X.K X.mg μ H H' r v') X.xe s
theorem intsD_map : ∀ ns : List Int, intsD (ns.map .int) = some ns
  | [] => rfl
  | n :: ns => by rw [List.map_cons]; unfold intsD; rw [intsD_map ns]
theorem intsD_is : ∀ {ds : List D} {ns : List Int}, intsD ds = some ns → ds = ns.map .int
  | [], ns, h => by cases h; rfl
  | .int i :: ds, ns, h => by
    unfold intsD at h
    split at h
    · rename_i ms hm
      cases h
      rw [List.map_cons, intsD_is hm]
    · cases h
  | .non :: ds, ns, h => by unfold intsD at h; cases h
  | .bl _ :: ds, ns, h => by unfold intsD at h; cases h
  | .str _ :: ds, ns, h => by unfold intsD at h; cases h
  | .tup _ :: ds, ns, h => by unfold intsD at h; cases h
  | .ptup _ :: ds, ns, h => by unfold intsD at h; cases h
  | .ref _ :: ds, ns, h => by unfold intsD at h; cases h
  | .fro _ :: ds, ns, h => by unfold intsD at h; cases h
  | .lst _ :: ds, ns, h => by unfold intsD at h; cases h
  | .obj _ _ _ :: ds, ns, h => by unfold intsD at h; cases h
  | .dk _ _ :: ds, ns, h => by unfold intsD at h; cases h
  | .dt _ _ :: ds, ns, h => by unfold intsD at h; cases h
  | .exn _ _ _ _ :: ds, ns, h => by unfold intsD at h; cases h
theorem CallD.of {fv : Value} {r : List V → Hp → VK → Prop} {g : List D → Store → Option D} (ho : CallR X fv r)
    (q : ∀ (H : Hp) (μ : List Addr) (S : Store) (H0 : Hp) (ds : List D) (vs : List V) (res : D), Rel X.K X.mg μ S H → ResL X.K X.mg μ H0 H ds vs → g ds S = some res →
      r vs H fun v' H' => Step X.K X.mg μ H μ S H' ∧ ResOk X.K X.mg μ H H' res v') : CallD X fv g := by
  intro pins s σ H μ S H0 ds vs us res I R x rv eg
  exact thn (ho pins s σ H vs us _ I rv (q H μ S H0 ds vs res R x eg)) fun u s' ⟨v', H', I', r', st, x⟩ => ⟨v', H', I', r', st, x⟩
def mBlt (g : List D → Store → Option D) (ma : M (List D)) : M D := fun ρ S => (ma ρ S).bind fun ds S1 => Out.of (g ds S1) S1
theorem ev_blt {x : Str} {e : Expr} {es : List Expr} {p pos : Pos} {fv : Value} {g : List D → Store → Option D} {ma : M (List D)} (hg : Gl X x) (hm : X.mg x = none) (hv : bootBuiltins x = some fv) (hf : (∃ id, fv = .builtin id) ∨ ∃ T, fv = .type T) (hc : CallD X fv g) (ha : EvA X W (e :: es) ma)
    (hs : noStars (e :: es) = true) (hn : x ≠ "__name__") (hdb : (x == ("__debug__" : Str)) = false) : EvE X W (.Call (.Name x p) (e :: es) [] pos) (mBlt g ma) := by
  refine ⟨fun pins s σ H μ S ρ I R E F => ?_⟩
  unfold mBlt at F
  unfold noStars at hs
  rw [Bool.and_eq_true] at hs
  have go := thn (ha.run pos pins s σ H μ S ρ I R E F.left) (Q' := fun us s1 => wpAny (model X.prog X.w) X.A (call fv us) (EvP X pins σ μ H H (mBlt g ma ρ S)) X.xe s1) fun us s1 ⟨ds, S1, vs, μ1, H1, e1, I1, r1, st1, x1⟩ => by
    have F1 := Fine.right (f := fun ds S1 => Out.of (g ds S1) S1) R st1 F e1
    obtain ⟨r, er⟩ := fine_of F1
    refine thn (hc pins s1 σ H1 μ1 S1 H ds vs us r I1 st1.rel x1 r1 er) fun u s' ⟨v', H', I', r', st', x'⟩ => ?_
    exact ⟨r, S1, v', μ1, H', by unfold mBlt; rw [e1, bind_ok, er]; rfl, I', r', st1.trans R st', x'.back R st1⟩
  rcases hf with ⟨id, rfl⟩ | ⟨T, rfl⟩
  · exact wpAny_Call_Name_kw (ld_blt I hg hm hv (PyProof.Rows.callWith_builtin1 go (star_of hs.1) (noStars_any hs.2)) hn hdb)
  · exact wpAny_Call_Name_kw (ld_blt I hg hm hv (PyProof.Rows.callWith_type1 go (star_of hs.1) (noStars_any hs.2)) hn hdb)

/-! ### the built-ins -/
def intsL (S : Store) (d : D) : Option (List Int) := match seqL S d with
  | some ds => intsD ds
  | none => none
def boolsD : List D → Option (List Bool)
  | [] => some []
  | .bl b :: ds => match boolsD ds with
    | some bs => some (b :: bs)
    | none => none
  | _ :: _ => none
def boolsL (S : Store) (d : D) : Option (List Bool) := match seqL S d with
  | some ds => boolsD ds
  | none => none
def sortI (ns : List Int) : List Int := ns.mergeSort fun a b => decide (a ≤ b)
def maxI : List Int → Option Int
  | [] => none
  | n :: ns => some (ns.foldl max n)
def minI : List Int → Option Int
  | [] => none
  | n :: ns => some (ns.foldl min n)
inductive Blt where
  | len | list | tuple | sorted | all | any | sum | max | min | abs | int | str | bool | divmod
  deriving DecidableEq
def Blt.nm : Blt → Str
  | .len => "len" | .list => "list" | .tuple => "tuple" | .sorted => "sorted" | .all => "all" | .any => "any" | .sum => "sum" | .max => "max" | .min => "min" | .abs => "abs" | .int => "int" | .str => "str" | .bool => "bool" | .divmod => "divmod"
def Blt.val : Blt → Value
  | .len => .builtin "len" | .list => .type "list" | .tuple => .type "tuple" | .sorted => .builtin "sorted" | .all => .builtin "all" | .any => .builtin "any" | .sum => .builtin "sum" | .max => .builtin "max" | .min => .builtin "min" | .abs => .builtin "abs"
  | .int => .type "int" | .str => .type "str" | .bool => .type "bool" | .divmod => .builtin "divmod"
def one (f : D → Store → Option D) : List D → Store → Option D := fun ds S => match ds with
  | [d] => f d S
  | _ => none
def lenD (d : D) (S : Store) : Option D := match d with
  | .str x => if x.length ≤ sizeLine then some (.int x.length) else none
  | d => match seqA S d with
    | some ds => some (.int ds.length)
    | none => none
def listD (d : D) (S : Store) : Option D := match seqA S d with
  | some ds => some (.lst ds)
  | none => none
def tupleD (d : D) (S : Store) : Option D := match seqA S d with
  | some ds => some (.tup ds)
  | none => none
def tupI (ns : List Int) : D := .tup (ns.map .int)
def tupsD : List D → Option (List (List Int))
  | [] => some []
  | .tup ds :: r => match intsD ds with
    | some (n :: ns) => match tupsD r with
      | some q => some ((n :: ns) :: q)
      | none => none
    | _ => none
  | _ :: _ => none
def sortL (nss : List (List Int)) : List (List Int) := nss.mergeSort fun a b => !HT.lexLt b a
def sortedD (d : D) (S : Store) : Option D := match d with
  | .tup ds => match intsD ds with
    | some ns => some (.lst ((sortI ns).map .int))
    | none => none
  | d => match intsL S d with
    | some ns => some (.lst ((sortI ns).map .int))
    | none => match seqL S d with
      | some ds => match tupsD ds with
        | some nss => some (.lst ((sortL nss).map tupI))
        | none => none
      | none => none
def allD (d : D) (S : Store) : Option D := match boolsL S d with
  | some bs => some (.bl (bs.all id))
  | none => none
def anyD (d : D) (S : Store) : Option D := match boolsL S d with
  | some bs => some (.bl (bs.any id))
  | none => none
def sumD (d : D) (S : Store) : Option D := match intsL S d with
  | some ns => some (.int ns.sum)
  | none => none
def maxD (ds : List D) (S : Store) : Option D := match ds with
  | [d] => match intsL S d with
    | some ns => match maxI ns with
      | some k => some (.int k)
      | none => none
    | none => none
  | [.int i, .int j] => some (.int (if j > i then j else i))
  | _ => none
def minD (ds : List D) (S : Store) : Option D := match ds with
  | [d] => match intsL S d with
    | some ns => match minI ns with
      | some k => some (.int k)
      | none => none
    | none => none
  | [.int i, .int j] => some (.int (if j < i then j else i))
  | _ => none
def absD (d : D) (_ : Store) : Option D := match d with
  | .int i => some (.int (if i < 0 then -i else i))
  | _ => none
def intD (d : D) (_ : Store) : Option D := match d with
  | .int i => some (.int i)
  | .bl b => some (.int (if b then 1 else 0))
  | _ => none
def boolD (d : D) (_ : Store) : Option D := match d with
  | .int i => some (.bl (i != 0))
  | .bl b => some (.bl b)
  | _ => none
def strD (d : D) (_ : Store) : Option D := match d with
  | .int i => if i.natAbs.log2 < 1920 then some (.str (toString i)) else none
  | _ => none
open Classical in
noncomputable def divmodD (ds : List D) (_ : Store) : Option D := match ds with
  | [.int i, .int j] => if InDm j then some (.tup [.int (i / j), .int (i % j)]) else none
  | _ => none
noncomputable def bltD : Blt → List D → Store → Option D
  | .len => one lenD
  | .list => one listD
  | .tuple => one tupleD
  | .sorted => one sortedD
  | .all => one allD
  | .any => one anyD
  | .sum => one sumD
  | .max => maxD
  | .min => minD
  | .abs => one absD
  | .int => one intD
  | .str => one strD
  | .bool => one boolD
  | .divmod => divmodD
theorem resL_one {K : PySem.W.Frag} {mg : Str → Option Value} {μ : List Addr} {H0 H : Hp} {d : D} {vs : List V} (x : ResL K mg μ H0 H [d] vs) : ∃ v, vs = [v] ∧ ResOk K mg μ H0 H d v := by
  cases x with
  | cons x r _ => cases r; exact ⟨_, rfl, x⟩
theorem resL_two {K : PySem.W.Frag} {mg : Str → Option Value} {μ : List Addr} {H0 H : Hp} {d e : D} {vs : List V} (x : ResL K mg μ H0 H [d, e] vs) : ∃ v w, vs = [v, w] ∧ ResOk K mg μ H0 H d v ∧ ResOk K mg μ H0 H e w := by
  cases x with
  | cons x r _ => obtain ⟨w, rfl, y⟩ := resL_one r; exact ⟨_, w, rfl, x, y⟩
theorem intsL_ok {K : PySem.W.Frag} {mg : Str → Option Value} {μ : List Addr} {H0 H : Hp} {S : Store} {d : D} {v : V} {ns : List Int} (R : Rel K mg μ S H) (x : ResOk K mg μ H0 H d v) (h : intsL S d = some ns) : ∃ a, v = .ref a ∧ SqL K H a (ns.map V.int) := by
  unfold intsL at h
  split at h
  · rename_i ds hd
    obtain ⟨a, vs, rfl, q, l⟩ := seqL_ok R x hd
    rw [intsD_ok h l] at q
    exact ⟨a, rfl, q⟩
  · cases h
theorem boolsD_ok {K : PySem.W.Frag} {μ : List Addr} {H : Hp} : ∀ {ds : List D} {ns : List Bool} {vs : List V}, boolsD ds = some ns → RepL K μ H ds vs → vs = ns.map V.bl := by
  intro ds
  induction ds with
  | nil => intro ns vs h r; cases h; rw [RepL.nil_iff] at r; subst r; rfl
  | cons d ds ih =>
    intro ns vs h r
    obtain ⟨v, w, rfl, r1, r2⟩ := RepL.cons_iff.mp r
    cases d with
    | bl i =>
      unfold boolsD at h
      split at h
      · rename_i ms hm
        cases h
        unfold Rep at r1
        rw [r1, ih hm r2]; rfl
      · cases h
    | _ => cases h
theorem boolsL_ok {K : PySem.W.Frag} {mg : Str → Option Value} {μ : List Addr} {H0 H : Hp} {S : Store} {d : D} {v : V} {ns : List Bool} (R : Rel K mg μ S H) (x : ResOk K mg μ H0 H d v) (h : boolsL S d = some ns) : ∃ a, v = .ref a ∧ SqL K H a (ns.map V.bl) := by
  unfold boolsL at h
  split at h
  · rename_i ds hd
    obtain ⟨a, vs, rfl, q, l⟩ := seqL_ok R x hd
    rw [boolsD_ok h l] at q
    exact ⟨a, rfl, q⟩
  · cases h
theorem rep_ints {K : PySem.W.Frag} {μ : List Addr} {H : Hp} : ∀ ns : List Int, RepL K μ H (ns.map D.int) (ns.map V.int)
  | [] => RepL.nil
  | n :: ns => RepL.cons (by unfold Rep; rfl) (rep_ints ns)
theorem sorted_one {ns ms : List Int} (h1 : ns.Pairwise (· ≤ ·)) (h2 : ms.Pairwise (· ≤ ·)) (p : ns.Perm ms) : ns = ms := p.eq_of_pairwise (le := (· ≤ ·)) (fun a b _ _ h h' => Int.le_antisymm h h') h1 h2
theorem sortI_pairwise (ns : List Int) : (sortI ns).Pairwise (· ≤ ·) := by
  have := List.pairwise_mergeSort (le := fun a b => decide (a ≤ b)) (fun a b c h1 h2 => decide_eq_true (Int.le_trans (of_decide_eq_true h1) (of_decide_eq_true h2))) (fun a b => by
    rw [Bool.or_eq_true, decide_eq_true_eq, decide_eq_true_eq]; exact Int.le_total a b) ns
  exact this.imp fun h => of_decide_eq_true h
theorem sortI_perm (ns : List Int) : (sortI ns).Perm ns := List.mergeSort_perm ns _
theorem maxI_is : ∀ {ns : List Int} {m k : Int}, maxI ns = some k → m ∈ ns → (∀ y ∈ ns, y ≤ m) → m = k := by
  have key : ∀ (ns : List Int) (a : Int), (a ≤ ns.foldl max a) ∧ (∀ y ∈ ns, y ≤ ns.foldl max a) ∧ (ns.foldl max a = a ∨ ns.foldl max a ∈ ns) := by
    intro ns
    induction ns with
    | nil => intro a; exact ⟨Int.le_refl _, (fun _ h => by cases h), Or.inl rfl⟩
    | cons n ns ih =>
      intro a
      obtain ⟨h1, h2, h3⟩ := ih (max a n)
      rw [List.foldl_cons]
      refine ⟨by omega, fun y hy => ?_, ?_⟩
      · rcases List.mem_cons.mp hy with rfl | hy
        · omega
        · exact h2 y hy
      · rcases h3 with h3 | h3
        · rw [h3]
          by_cases q : a ≤ n
          · right; rw [Int.max_eq_right q]; exact List.mem_cons_self
          · left; exact Int.max_eq_left (by omega)
        · exact .inr (List.mem_cons_of_mem _ h3)
  intro ns m k h hm hle
  cases ns with
  | nil => cases hm
  | cons n ns =>
    unfold maxI at h
    cases h
    obtain ⟨h1, h2, h3⟩ := key ns n
    have a1 : m ≤ ns.foldl max n := by
      rcases List.mem_cons.mp hm with rfl | hm
      · exact h1
      · exact h2 m hm
    have a2 : ns.foldl max n ≤ m := by
      rcases h3 with h3 | h3
      · rw [h3]; exact hle n List.mem_cons_self
      · exact hle _ (List.mem_cons_of_mem _ h3)
    omega
theorem minI_is : ∀ {ns : List Int} {m k : Int}, minI ns = some k → m ∈ ns → (∀ y ∈ ns, m ≤ y) → m = k := by
  have key : ∀ (ns : List Int) (a : Int), (ns.foldl min a ≤ a) ∧ (∀ y ∈ ns, ns.foldl min a ≤ y) ∧ (ns.foldl min a = a ∨ ns.foldl min a ∈ ns) := by
    intro ns
    induction ns with
    | nil => intro a; exact ⟨Int.le_refl _, (fun _ h => by cases h), Or.inl rfl⟩
    | cons n ns ih =>
      intro a
      obtain ⟨h1, h2, h3⟩ := ih (min a n)
      rw [List.foldl_cons]
      refine ⟨by omega, fun y hy => ?_, ?_⟩
      · rcases List.mem_cons.mp hy with rfl | hy
        · omega
        · exact h2 y hy
      · rcases h3 with h3 | h3
        · rw [h3]
          by_cases q : n ≤ a
          · right; rw [Int.min_eq_right q]; exact List.mem_cons_self
          · left; exact Int.min_eq_left (by omega)
        · exact .inr (List.mem_cons_of_mem _ h3)
  intro ns m k h hm hle
  cases ns with
  | nil => cases hm
  | cons n ns =>
    unfold minI at h
    cases h
    obtain ⟨h1, h2, h3⟩ := key ns n
    have a1 : ns.foldl min n ≤ m := by
      rcases List.mem_cons.mp hm with rfl | hm
      · exact h1
      · exact h2 m hm
    have a2 : m ≤ ns.foldl min n := by
      rcases h3 with h3 | h3
      · rw [h3]; exact hle n List.mem_cons_self
      · exact hle _ (List.mem_cons_of_mem _ h3)
    omega
theorem CallD.one {fv : Value} {r : List V → Hp → VK → Prop} {f : D → Store → Option D} (ho : CallR X fv r)
    (q : ∀ (H : Hp) (μ : List Addr) (S : Store) (H0 : Hp) (d : D) (v : V) (res : D), Rel X.K X.mg μ S H → ResOk X.K X.mg μ H0 H d v → f d S = some res →
      r [v] H fun v' H' => Step X.K X.mg μ H μ S H' ∧ ResOk X.K X.mg μ H H' res v') : CallD X fv (one f) := by
  refine CallD.of ho fun H μ S H0 ds vs res R x eg => ?_
  unfold Ev.one at eg
  split at eg
  · obtain ⟨v, rfl, y⟩ := resL_one x
    exact q H μ S H0 _ v res R y eg
  · cases eg
theorem blt_len : CallD X (.builtin "len") (one lenD) := by
  refine CallD.one (call_len_seq.or call_len_str) fun H μ S H0 d v res R y eg => ?_
  unfold lenD at eg
  split at eg
  · split at eg
    · cases eg
      exact .inr ⟨_, by rw [rep_str y], by assumption, Step.refl R, res_int⟩
    · cases eg
  · split at eg
    · rename_i es h
      cases eg
      obtain ⟨a, ws, rfl, q, l⟩ := seqA_ok R y h
      exact .inl ⟨a, ws, rfl, q, Step.refl R, by rw [← l.length]; exact res_int⟩
    · cases eg
theorem blt_list : CallD X (.type "list") (one listD) := by
  refine CallD.one call_list_of fun H μ S H0 d v res R y eg => ?_
  unfold listD at eg
  split at eg
  · rename_i es h
    cases eg
    obtain ⟨a, ws, rfl, q, l⟩ := seqA_ok R y h
    exact ⟨a, ws, rfl, q, fun p hp => ⟨Step.fresh R hp, new_lst R hp l⟩⟩
  · cases eg
theorem blt_tuple : CallD X (.type "tuple") (one tupleD) := by
  refine CallD.one call_tuple_of fun H μ S H0 d v res R y eg => ?_
  unfold tupleD at eg
  split at eg
  · rename_i es h
    cases eg
    obtain ⟨a, ws, rfl, q, l⟩ := seqA_ok R y h
    rcases q with q | q
    · exact ⟨a, ws, rfl, .inl ⟨q, fun p hp => ⟨Step.fresh R hp, new_tup R hp l⟩⟩⟩
    · exact ⟨a, ws, rfl, .inr ⟨q, Step.refl R, ResOk.plain (by unfold Rep; exact ⟨a, ws, rfl, q, l⟩)⟩⟩
  · cases eg
/-! ### sorted, of a tuple of ints -/
def rSortedTu (K : PySem.W.Frag) : List V → Hp → VK → Prop := fun vs H Q => ∃ (a : Addr) (ns : List Int), vs = [V.ref a] ∧ SqT K H a (ns.map V.int) ∧
  ∀ (ns' : List Int) (p : Addr), ns'.Perm ns → ns'.Pairwise (· ≤ ·) → H p = none → Q (.ref p) (upd H p (.lst (ns'.map V.int)))
theorem cr_sortedTu : CallR X (.builtin "sorted") (rSortedTu X.K) := by
  intro pins s σ H vs us Q I r h
  obtain ⟨a, ns, rfl, hs, q⟩ := h
  obtain ⟨its, rv, hl, hz⟩ := I.tuple hs
  rw [Vals.ref1 r]
  have hi := rv.ints
  have hzi : its.length ≤ sizeLine := by rw [← rv.length]; exact hz
  obtain ⟨o, ho, hc, n, hd⟩ := id hl
  refine Calls.call_function_entry kind_sorted plain_sorted entry_sorted (args_sorted1 _) ?_
  unfold Builtin.«sorted»
  refine wpAny_bind (m := checkCount "sorted" 1 1 _) (wpAny_pure ?_)
  refine wpAny_bind (wpAny_collect_seq a (.inr rfl) ho hc hd (fun h1 hk => ?_) (by simpa using hzi))
  have e0 : its.toArray.toList = its := by simp
  rw [e0]
  refine wpAny_bind (wpAny_newList ?_ hzi)
  have I1 : Inv X pins σ H { s with heap := h1 } := I.kept (t' := s.toks) hk
  have hoL : (h1.push (seqObj "list" its.toArray 0)).get? h1.objs.size = some (seqObj "list" its.toArray 0) := Heap.get?_push_size _ rfl
  show wpAny _ _ _ _ _ { s with heap := h1.push (seqObj "list" its.toArray 0) }
  refine wpAny_bind (wpAny_holding (wpAny_call_entry slot_list_sort ⟨_, hoL, rfl⟩ entry_list_sort (SrtO.list_sort_ord SrtO.swo_int hoL hzi (fun h2 => SrtO.ints_sortable hi h2) fun out hs1 hs2 => ⟨_, rfl, ?_⟩) (args_list_sort _)))
  obtain ⟨k1, k2, k3⟩ := SrtO.ints_out hi hs1 hs2
  obtain ⟨ep, he'⟩ := PyProof.Rows.sortedHeap_at (out := out.toArray) hoL
  have hlen : ((out.map SrtO.iv).map V.int).length ≤ sizeLine := by
    rw [List.length_map, k2.length_eq]
    rw [List.length_map] at hz
    exact hz
  have keep : ∀ b o, h1.get? b = some o → (sortedHeap (h1.push (seqObj "list" its.toArray 0)) h1.objs.size its out.toArray).get? b = some o := fun b o e => by
    have hlt : b < h1.objs.size := Heap.lt_size e
    rw [PyProof.Rows.sortedHeap_old (Nat.ne_of_lt hlt) (by rw [size_push']; exact Nat.lt_succ_of_lt hlt)]
    exact Heap.get?_push_of_some _ e
  exact wpAny_pure ⟨_, rfl, .ref h1.objs.size, upd H h1.objs.size (.lst ((out.map SrtO.iv).map V.int)), I1.laid (t' := s.toks) keep (Nat.le_refl _) ⟨hlen, out, ep, vals_of_ints k1, he'⟩, rfl, q _ _ k2 k3 (I1.hok.fresh (Nat.le_refl _))⟩
theorem sortL_perm (nss : List (List Int)) : (sortL nss).Perm nss := List.mergeSort_perm nss _
theorem sortL_pairwise (nss : List (List Int)) : (sortL nss).Pairwise fun a b => HT.lexLt b a = false := by
  have := List.pairwise_mergeSort (le := fun a b => !HT.lexLt b a) (fun a b c h1 h2 => by
    simp only [Bool.not_eq_true'] at h1 h2 ⊢
    exact lex_tr h1 h2) (fun a b => by
    cases h : HT.lexLt b a with
    | false => simp
    | true => rw [lex_asym h]; simp) nss
  exact this.imp fun h => by simpa using h
theorem lsorted_one {ns ms : List (List Int)} (h1 : ns.Pairwise fun a b => HT.lexLt b a = false) (h2 : ms.Pairwise fun a b => HT.lexLt b a = false) (p : ns.Perm ms) : ns = ms :=
  p.eq_of_pairwise (le := fun a b => HT.lexLt b a = false) (fun a b _ _ h h' => lex_tot h' h) h1 h2
theorem tupsD_ok : ∀ {ds : List D} {nss : List (List Int)}, tupsD ds = some nss → ds = nss.map tupI ∧ ∀ ns ∈ nss, ns ≠ []
  | [], nss, h => by cases h; exact ⟨rfl, fun _ h => nomatch h⟩
  | d :: ds, nss, h => by
    unfold tupsD at h
    split at h
    · rename_i hh; exact absurd hh (List.cons_ne_nil _ _)
    · rename_i es r hh
      obtain ⟨rfl, rfl⟩ := List.cons.inj hh
      split at h
      · rename_i n ns hi
        split at h
        · rename_i q hq
          cases h
          obtain ⟨e, hn⟩ := tupsD_ok hq
          refine ⟨?_, fun x hx => ?_⟩
          · rw [List.map_cons, ← e]
            unfold tupI
            rw [intsD_is hi]
          · rcases List.mem_cons.mp hx with rfl | hx
            · exact List.cons_ne_nil _ _
            · exact hn x hx
        · cases h
      · cases h
    · cases h
section
variable {K : PySem.W.Frag} {μ : List Addr} {H : Hp}
theorem tupAt_of {ns : List Int} {v : V} (r : Rep K μ H (tupI ns) v) : TupAt K H v ns := by
  unfold tupI Rep at r
  obtain ⟨t, vs, e, q, l⟩ := r
  have := intsD_ok (ns := ns) (ds := ns.map .int) (intsD_map ns) l
  subst this
  exact ⟨t, e, q⟩
theorem tups_at : ∀ {nss : List (List Int)} {vs : List V}, RepL K μ H (nss.map tupI) vs → (∀ ns ∈ nss, ns ≠ []) → ∀ x ∈ vs, ∃ ns, TupAt K H x ns ∧ ns ≠ []
  | [], vs, r, _, x, hx => by rw [List.map_nil, RepL.nil_iff] at r; subst r; cases hx
  | ns :: nss, vs, r, hne, x, hx => by
    rw [List.map_cons] at r
    obtain ⟨v, w, rfl, r1, r2⟩ := RepL.cons_iff.mp r
    rcases List.mem_cons.mp hx with rfl | hx
    · exact ⟨ns, tupAt_of r1, hne ns (by simp)⟩
    · exact tups_at r2 (fun y hy => hne y (List.mem_cons_of_mem _ hy)) x hx
theorem tups_perm {vs ys : List V} (p : ys.Perm vs) : ∀ nss : List (List Int), RepL K μ H (nss.map tupI) vs → ∃ nss' : List (List Int), nss'.Perm nss ∧ RepL K μ H (nss'.map tupI) ys := by
  induction p with
  | nil => intro nss r; exact ⟨nss, List.Perm.refl _, r⟩
  | cons x p ih =>
    intro nss r
    cases nss with
    | nil => rw [List.map_nil, RepL.nil_iff] at r; cases r
    | cons n nss =>
      rw [List.map_cons] at r
      obtain ⟨v, w, e, r1, r2⟩ := RepL.cons_iff.mp r
      obtain ⟨rfl, rfl⟩ := List.cons.inj e
      obtain ⟨nss', h1, h2⟩ := ih nss r2
      exact ⟨n :: nss', h1.cons n, RepL.cons r1 h2⟩
  | swap x y l =>
    intro nss r
    match nss, r with
    | [], r => rw [List.map_nil, RepL.nil_iff] at r; cases r
    | [n], r =>
      rw [List.map_cons, List.map_nil] at r
      obtain ⟨v, w, e, r1, r2⟩ := RepL.cons_iff.mp r
      rw [RepL.nil_iff] at r2
      subst r2
      cases e
    | n :: m :: nss, r =>
      rw [List.map_cons, List.map_cons] at r
      obtain ⟨v, w, e, r1, r2⟩ := RepL.cons_iff.mp r
      obtain ⟨rfl, rfl⟩ := List.cons.inj e
      obtain ⟨v2, w2, e2, r3, r4⟩ := RepL.cons_iff.mp r2
      obtain ⟨rfl, rfl⟩ := List.cons.inj e2
      exact ⟨m :: n :: nss, List.Perm.swap _ _ _, RepL.cons r3 (RepL.cons r1 r4)⟩
  | trans p q ih1 ih2 =>
    intro nss r
    obtain ⟨n1, h1, h2⟩ := ih2 nss r
    obtain ⟨n2, h3, h4⟩ := ih1 n1 h2
    exact ⟨n2, h3.trans h1, h4⟩
theorem tups_sorted : ∀ {nss : List (List Int)} {ys : List V}, RepL K μ H (nss.map tupI) ys → ys.Pairwise (fun x y => ∀ n m, TupAt K H x n → TupAt K H y m → HT.lexLt m n = false) → nss.Pairwise fun a b => HT.lexLt b a = false
  | [], _, _, _ => List.Pairwise.nil
  | n :: nss, ys, r, h => by
    rw [List.map_cons] at r
    obtain ⟨v, w, rfl, r1, r2⟩ := RepL.cons_iff.mp r
    obtain ⟨h1, h2⟩ := List.pairwise_cons.mp h
    refine List.pairwise_cons.mpr ⟨fun m hm => ?_, tups_sorted r2 h2⟩
    obtain ⟨i, hi, e⟩ := List.mem_iff_getElem.mp hm
    obtain ⟨u, hu, ru⟩ := r2.get (i := i) (d := tupI m) (by rw [List.getElem?_map, List.getElem?_eq_getElem hi, e]; rfl)
    exact h1 u (List.mem_of_getElem? hu) n m (tupAt_of r1) (tupAt_of ru)
end
theorem blt_sorted : CallD X (.builtin "sorted") (one sortedD) := by
  have fin : ∀ (H : Hp) (μ : List Addr) (S : Store) (ns ns' : List Int) (p : Addr), Rel X.K X.mg μ S H → ns'.Perm ns → ns'.Pairwise (· ≤ ·) → H p = none →
      Step X.K X.mg μ H μ S (upd H p (.lst (ns'.map V.int))) ∧ ResOk X.K X.mg μ H (upd H p (.lst (ns'.map V.int))) (.lst ((sortI ns).map .int)) (.ref p) := by
    intro H μ S ns ns' p R hp hs hn
    have e : ns' = sortI ns := sorted_one hs (sortI_pairwise ns) (hp.trans (sortI_perm ns).symm)
    subst e
    exact ⟨Step.fresh R hn, new_lst R hn (rep_ints _)⟩
  refine CallD.one (cr_sortedI.or (cr_sortedTu.or cr_sortLx)) fun H μ S H0 d v res R y eg => ?_
  unfold sortedD at eg
  split at eg
  · rename_i ds
    split at eg
    · rename_i ns hn
      cases eg
      have y := y.rep rfl
      unfold Rep at y
      obtain ⟨a, vs, rfl, hq, l⟩ := y
      have e := intsD_ok hn l
      subst e
      exact .inr (.inl ⟨a, ns, rfl, hq, fun ns' p hp hs hn => fin H μ S ns ns' p R hp hs hn⟩)
    · cases eg
  · split at eg
    · rename_i ns hn
      cases eg
      obtain ⟨a, rfl, hq⟩ := intsL_ok R y hn
      exact .inl ⟨a, ns, rfl, hq, fun ns' p hp hs hn => fin H μ S ns ns' p R hp hs hn⟩
    · split at eg
      · rename_i ds hd
        split at eg
        · rename_i nss ht
          cases eg
          obtain ⟨a, vs, rfl, hq, l⟩ := seqL_ok R y hd
          obtain ⟨rfl, hne⟩ := tupsD_ok ht
          refine .inr (.inr ⟨a, vs, rfl, hq, tups_at l hne, fun ys p hp hs hn => ⟨Step.fresh R hn, ?_⟩⟩)
          obtain ⟨nss', q1, q2⟩ := tups_perm hp nss l
          have e : nss' = sortL nss := lsorted_one (tups_sorted q2 hs) (sortL_pairwise nss) (q1.trans (sortL_perm nss).symm)
          rw [← e]
          exact new_lst R hn q2
        · cases eg
      · cases eg
theorem blt_all (hc : X.calm = true) : CallD X (.builtin "all") (one allD) := by
  refine CallD.one (cr_all hc) fun H μ S H0 d v res R y eg => ?_
  unfold allD at eg
  split at eg
  · rename_i ns h
    cases eg
    obtain ⟨a, rfl, q⟩ := boolsL_ok R y h
    exact ⟨a, ns, rfl, q, Step.refl R, res_bl⟩
  · cases eg
theorem blt_any (hc : X.calm = true) : CallD X (.builtin "any") (one anyD) := by
  refine CallD.one (cr_any hc) fun H μ S H0 d v res R y eg => ?_
  unfold anyD at eg
  split at eg
  · rename_i ns h
    cases eg
    obtain ⟨a, rfl, q⟩ := boolsL_ok R y h
    exact ⟨a, ns, rfl, q, Step.refl R, res_bl⟩
  · cases eg
theorem blt_sum (hc : X.calm = true) : CallD X (.builtin "sum") (one sumD) := by
  refine CallD.one (cr_sum hc) fun H μ S H0 d v res R y eg => ?_
  unfold sumD at eg
  split at eg
  · rename_i ns h
    cases eg
    obtain ⟨a, rfl, q⟩ := intsL_ok R y h
    exact ⟨a, ns, rfl, q, Step.refl R, res_int⟩
  · cases eg
theorem blt_max (hc : X.calm = true) : CallD X (.builtin "max") maxD := by
  refine CallD.of ((cr_max hc).or (call_max2 hc)) fun H μ S H0 ds vs res R x eg => ?_
  unfold maxD at eg
  split at eg
  · split at eg
    · rename_i ns h
      split at eg
      · rename_i k hk
        cases eg
        obtain ⟨v, rfl, y⟩ := resL_one x
        obtain ⟨a, rfl, q⟩ := intsL_ok R y h
        refine .inl ⟨a, ns, rfl, q, ?_, fun m hm hle => ?_⟩
        · cases ns with
          | nil => cases hk
          | cons _ _ => simp
        · rw [maxI_is hk hm hle]; exact ⟨Step.refl R, res_int⟩
      · cases eg
    · cases eg
  · cases eg
    obtain ⟨v, w, rfl, y1, y2⟩ := resL_two x
    cases rep_int y1; cases rep_int y2
    exact .inr ⟨_, _, rfl, Step.refl R, res_int⟩
  · cases eg
theorem blt_min (hc : X.calm = true) : CallD X (.builtin "min") minD := by
  refine CallD.of ((cr_min hc).or (call_min2 hc)) fun H μ S H0 ds vs res R x eg => ?_
  unfold minD at eg
  split at eg
  · split at eg
    · rename_i ns h
      split at eg
      · rename_i k hk
        cases eg
        obtain ⟨v, rfl, y⟩ := resL_one x
        obtain ⟨a, rfl, q⟩ := intsL_ok R y h
        refine .inl ⟨a, ns, rfl, q, ?_, fun m hm hle => ?_⟩
        · cases ns with
          | nil => cases hk
          | cons _ _ => simp
        · rw [minI_is hk hm hle]; exact ⟨Step.refl R, res_int⟩
      · cases eg
    · cases eg
  · cases eg
    obtain ⟨v, w, rfl, y1, y2⟩ := resL_two x
    cases rep_int y1; cases rep_int y2
    exact .inr ⟨_, _, rfl, Step.refl R, res_int⟩
  · cases eg
theorem blt_abs : CallD X (.builtin "abs") (one absD) := by
  refine CallD.one call_abs fun H μ S H0 d v res R y eg => ?_
  unfold absD at eg
  split at eg
  · cases eg
    exact ⟨_, by rw [rep_int y], Step.refl R, res_int⟩
  · cases eg
theorem blt_int : CallD X (.type "int") (one intD) := by
  refine CallD.one call_int1 fun H μ S H0 d v res R y eg => ?_
  unfold intD at eg
  split at eg
  · cases eg
    exact .inl ⟨_, by rw [rep_int y], Step.refl R, res_int⟩
  · cases eg
    exact .inr ⟨_, by rw [rep_bl y], Step.refl R, res_int⟩
  · cases eg
theorem blt_bool : CallD X (.type "bool") (one boolD) := by
  refine CallD.one call_bool1 fun H μ S H0 d v res R y eg => ?_
  unfold boolD at eg
  split at eg
  · cases eg
    exact .inl ⟨_, by rw [rep_int y], Step.refl R, res_bl⟩
  · cases eg
    exact .inr ⟨_, by rw [rep_bl y], Step.refl R, res_bl⟩
  · cases eg
theorem blt_str : CallD X (.type "str") (one strD) := by
  refine CallD.one call_str_int fun H μ S H0 d v res R y eg => ?_
  unfold strD at eg
  split at eg
  · split at eg
    · cases eg
      exact ⟨_, by rw [rep_int y], by assumption, Step.refl R, res_str⟩
    · cases eg
  · cases eg
theorem blt_divmod : CallD X (.builtin "divmod") divmodD := by
  refine CallD.of call_divmod fun H μ S H0 ds vs res R x eg => ?_
  unfold divmodD at eg
  split at eg
  · split at eg
    · rename_i hc
      cases eg
      obtain ⟨v, w, rfl, y1, y2⟩ := resL_two x
      cases rep_int y1; cases rep_int y2
      exact ⟨_, _, rfl, ⟨hc.lo, hc.hi⟩, fun p hp => ⟨Step.fresh R hp, new_tup R hp (rep_ints [_, _])⟩⟩
    · cases eg
  · cases eg
theorem blt_ok (hc : X.calm = true) : ∀ b : Blt, CallD X b.val (bltD b)
  | .len => blt_len
  | .list => blt_list
  | .tuple => blt_tuple
  | .sorted => blt_sorted
  | .all => blt_all hc
  | .any => blt_any hc
  | .sum => blt_sum hc
  | .max => blt_max hc
  | .min => blt_min hc
  | .abs => blt_abs
  | .int => blt_int
  | .str => blt_str
  | .bool => blt_bool
  | .divmod => blt_divmod
theorem blt_boot : ∀ b : Blt, bootBuiltins b.nm = some b.val := by intro b; cases b <;> decide +kernel
theorem blt_kind : ∀ b : Blt, (∃ id, b.val = .builtin id) ∨ ∃ T, b.val = .type T := by
  intro b; cases b <;> first | exact .inl ⟨_, rfl⟩ | exact .inr ⟨_, rfl⟩
theorem blt_name : ∀ b : Blt, b.nm ≠ "__name__" ∧ (b.nm == ("__debug__" : Str)) = false := by intro b; cases b <;> decide +kernel

/-! ### isinstance(a, T) -/
inductive Ty where | int | bool | str | tuple | list
  deriving DecidableEq
def Ty.nm : Ty → String | .int => "int" | .bool => "bool" | .str => "str" | .tuple => "tuple" | .list => "list"
def isiD (T : Ty) (d : D) (S : Store) : Option D := match d with
  | .non => some (.bl false)
  | .bl _ => some (.bl (decide (T = .int ∨ T = .bool)))
  | .int _ => some (.bl (decide (T = .int)))
  | .str _ => some (.bl (decide (T = .str)))
  | .tup _ => some (.bl (decide (T = .tuple)))
  | d => match seqL S d with
    | some _ => some (.bl (decide (T = .list)))
    | none => none
theorem kit_non (T : Ty) : kitB "NoneType" T.nm = some false := by cases T <;> decide +kernel
theorem kit_bl (T : Ty) : kitB "bool" T.nm = some (decide (T = .int ∨ T = .bool)) := by cases T <;> decide +kernel
theorem kit_int (T : Ty) : kitB "int" T.nm = some (decide (T = .int)) := by cases T <;> decide +kernel
theorem kit_str (T : Ty) : kitB "str" T.nm = some (decide (T = .str)) := by cases T <;> decide +kernel
theorem kit_tup (T : Ty) : kitB "tuple" T.nm = some (decide (T = .tuple)) := by cases T <;> decide +kernel
theorem kit_lst (T : Ty) : kitB "list" T.nm = some (decide (T = .list)) := by cases T <;> decide +kernel
theorem isi_ok {K : PySem.W.Frag} {mg : Str → Option Value} {μ : List Addr} {H0 H : Hp} {S : Store} {T : Ty} {d r : D} {v : V} (R : Rel K mg μ S H) (x : ResOk K mg μ H0 H d v) (h : isiD T d S = some r) :
    ∃ t b, TyX K H v t ∧ PySem.W.kitOne K t (.type T.nm) = some b ∧ r = .bl b := by
  have lst : ∀ ds, seqL S d = some ds → ∃ t, TyX K H v t ∧ t = .type "list" := fun ds h1 => by
    obtain ⟨a, vs, rfl, q, l⟩ := seqL_ok R x h1
    rcases q with (q | ⟨o, q⟩) | ⟨o, its, n, q, hc, _⟩
    · exact ⟨_, .base (.lst q), rfl⟩
    · exact ⟨_, .base (.frz q), rfl⟩
    · exact ⟨_, .kList q hc, rfl⟩
  unfold isiD at h
  split at h
  · cases h; cases rep_non x; exact ⟨_, _, .base .non, kit_ty (kit_non T), rfl⟩
  · cases h; cases rep_bl x; exact ⟨_, _, .base (.bl _), kit_ty (kit_bl T), rfl⟩
  · cases h; cases rep_int x; exact ⟨_, _, .base (.int _), kit_ty (kit_int T), rfl⟩
  · cases h; cases rep_str x; exact ⟨_, _, .base (.str _), kit_ty (kit_str T), rfl⟩
  · cases h
    obtain ⟨a, vs, rfl, q, l⟩ := seqT_ok x rfl
    rcases q with (q | ⟨o, q⟩) | ⟨o, its, n, q, hc, _⟩
    · exact ⟨_, _, .base (.tup q), kit_ty (kit_tup T), rfl⟩
    · exact ⟨_, _, .fTuple q, kit_ty (kit_tup T), rfl⟩
    · exact ⟨_, _, .kTuple q hc, kit_ty (kit_tup T), rfl⟩
  · split at h
    · rename_i ds h1
      cases h
      obtain ⟨t, q, rfl⟩ := lst ds h1
      exact ⟨_, _, q, kit_ty (kit_lst T), rfl⟩
    · cases h
def mIsi (T : Ty) (ma : M D) : M D := fun ρ S => (ma ρ S).bind fun d S1 => Out.of (isiD T d S1) S1
theorem ty_boot (T : Ty) : bootBuiltins (Str.ofString T.nm) = some (.type T.nm) := by cases T <;> decide +kernel
theorem ty_name (T : Ty) : (Str.ofString T.nm) ≠ "__name__" ∧ ((Str.ofString T.nm) == ("__debug__" : Str)) = false := by cases T <;> decide +kernel
theorem ev_isi {a : Expr} {T : Ty} {p p2 pos : Pos} {ma : M D} (hg : Gl X "isinstance") (hm : X.mg "isinstance" = none) (hg2 : Gl X (Str.ofString T.nm)) (hm2 : X.mg (Str.ofString T.nm) = none) (ha : EvE X W a ma) (hs : notStar a = true) :
    EvE X W (.Call (.Name "isinstance" p) [a, .Name (Str.ofString T.nm) p2] [] pos) (mIsi T ma) := by
  have hT : PE X (.Name (Str.ofString T.nm) p2) (tC (.ty T.nm)) := pe_bltn hg2 hm2 (ty_boot T) rfl (ty_name T).1 (ty_name T).2
  refine EvE.of_pe (pe_callB call_isi hg hm (by decide +kernel) (pa_cons ha.pe (pa_cons hT pa_nil rfl) (star_of hs)) (by decide) (by decide) (star_of hs) rfl) fun σ H μ S ρ R E F => ?_
  unfold mIsi at F ⊢
  refine tm1 R E F fun d S1 v μ1 H1 e st x R1 E1 F1 => ?_
  obtain ⟨r, er⟩ := fine_of F1
  obtain ⟨t, b, q1, q2, rfl⟩ := isi_ok R1 x er
  exact ⟨v, .ty T.nm, t, _, b, rfl, .ty _, q1, q2, .bl b, S1, μ1, by rw [e, bind_ok, er]; rfl, st, res_bl⟩

/-! ### list(range(..)), tuple(range(..)) -/
def mRgL (tup : Bool) (mi : M (List D × Guard)) : M D := fun ρ S => (mi ρ S).bind fun p S1 => if p.1.length ≤ 2 ^ 24 then .ok (if tup then .tup p.1 else .lst p.1) S1 else .fail
end Ev
/-! Ev9: methods of lists, x += e, chains, xs[i] = e, enumerate. -/
namespace Ev
open PySem PySem.Spec PyProof.Rows L2
section
variable {X : Cx} {W : WX}

theorem sql_at {K : PySem.W.Frag} {mg : Str → Option Value} {μ : List Addr} {H0 H : Hp} {S : Store} {n : Nat} {ds : List D} {v : V} (R : Rel K mg μ S H) (hn : S[n]? = some (.lst ds)) (x : ResOk K mg μ H0 H (.ref n) v) :
    ∃ a vs, v = .ref a ∧ μ[n]? = some a ∧ H a = some (.lst vs) ∧ RepL K μ H ds vs := by
  have x := x.rep rfl
  unfold Rep at x
  obtain ⟨a, ha, rfl⟩ := x
  obtain ⟨C, dx, vs, _, h, _, r⟩ := R.cell n a _ ha hn
  exact ⟨a, vs, rfl, ha, h, r⟩
theorem tyV_lst {K : PySem.W.Frag} {H : Hp} {a : Addr} {vs : List V} (h : H a = some (.lst vs)) : tyV K "list" (.ref a) H := .inl ⟨rfl, _, SqL.of h⟩

def isLst (S : Store) (n : Nat) : Bool := match S[n]? with
  | some (.lst _) => true
  | _ => false
theorem isLst_ok {S : Store} {n : Nat} (h : isLst S n = true) : ∃ ds, S[n]? = some (.lst ds) := by
  unfold isLst at h
  split at h
  · exact ⟨_, by assumption⟩
  · cases h
/-- o.append(e) -/
def mApp (mo me : M D) : M D := fun ρ S => (mo ρ S).bind fun o S1 => match o with
  | .ref n => if isLst S1 n = true then (me ρ S1).bind fun d S2 => match (box d S2).2[n]? with
    | some (.lst ds) => if ds.length < sizeLine then .ok .non ((box d S2).2.set n (.lst (ds ++ [(box d S2).1]))) else .fail
    | _ => .fail
    else .fail
  | _ => .fail
theorem pa_one {e : Expr} {m : M D} (he : EvE X W e m) (hs : notStar e = true) : PA X [e] (tCons (TM X W m) tNil) := pa_cons he.pe pa_nil (star_of hs)
theorem ev_app {o e : Expr} {apos pos : Pos} {mo me : M D} (ho : EvE X W o mo) (he : EvE X W e me) (hb : notCall0 o = true) (hs : notStar e = true) (hline : (apos.endLine == pos.line) = true) :
    EvE X W (.Call (.Attribute o "append" apos) [e] [] pos) (mApp mo me) := by
  refine EvE.of_pe (pe_bm (T := "list") (id := "list.append") PySem.F.plainAttrs_list PySem.F.slot_list_append PySem.F.type_list_append mt_append ho.pe (pa_one he hs) (base_of hb _) (by rw [star_of hs]; rfl) hline (star_of hs) rfl) fun σ H μ S ρ R E F => ?_
  unfold mApp at F ⊢
  refine tm1 R E F fun d S1 v μ1 H1 e1 st x R1 E1 F1 => ?_
  rw [e1, bind_ok]
  split at F1
  · rename_i n
    split at F1
    · rename_i hl
      obtain ⟨ds0, h0⟩ := isLst_ok hl
      obtain ⟨a, vs, rfl, ha, hH, _⟩ := sql_at R1 h0 x
      refine ⟨tyV_lst hH, ?_⟩
      simp only [hl, if_true]
      refine tm1 R1 E1 F1 fun d2 S2 w μ2 H2 e2 st2 x2 R2 E2 F2 => ?_
      rw [e2, bind_ok]
      obtain ⟨μ3, st3, r3, ext, em⟩ := st2.box x2
      have R3 := st3.rel
      split at F2
      · rename_i ds hn
        split at F2
        · rename_i hz
          have xr : ResOk X.K X.mg μ3 H2 H2 (.ref n) (.ref a) := ResOk.step R1 st3 x |> fun z => ResOk.plain (z.rep rfl)
          obtain ⟨a', vs', ea, ha3, hH2, rl⟩ := sql_at R3 hn xr
          cases ea
          refine ⟨a, vs', w, rfl, rfl, hH2, by rw [← rl.length]; exact hz, ?_⟩
          have rr : RepL X.K μ3 H2 (ds ++ [(box d2 S2).1]) (vs' ++ [w]) := rl.append (RepL.cons r3 RepL.nil)
          have stw := Step.write (K := X.K) (mg := X.mg) (n := n) (C := 0) (dx := 0) (c := .lst (ds ++ [(box d2 S2).1])) (vs := vs' ++ [w]) R3 ha3 trivial trivial rr
          refine ⟨.non, _, μ3, ?_, (st.trans R (st3.trans R1 stw)), res_non⟩
          simp only [hz, if_true]
        · exact F2.elim
      · exact F2.elim
    · exact F1.elim
  · exact F1.elim

/-- o.pop() -/
def mPop (mo : M D) : M D := fun ρ S => (mo ρ S).bind fun o S1 => match o with
  | .ref n => match S1[n]? with
    | some (.lst ds) => match ds[ds.length - 1]? with
      | some d => .ok d (S1.set n (.lst ds.dropLast))
      | none => .fail
    | _ => .fail
  | _ => .fail
theorem repL_get {K : PySem.W.Frag} {μ : List Addr} {H : Hp} : ∀ {ds : List D} {vs : List V} {i : Nat} {d : D}, RepL K μ H ds vs → ds[i]? = some d → ∃ v, vs[i]? = some v ∧ Rep K μ H d v := by
  intro ds
  induction ds with
  | nil => intro vs i d r h; simp at h
  | cons e es ih =>
    intro vs i d r h
    obtain ⟨v, w, rfl, r1, r2⟩ := RepL.cons_iff.mp r
    cases i with
    | zero => cases h; exact ⟨v, rfl, r1⟩
    | succ i => rw [List.getElem?_cons_succ] at h ⊢; exact ih r2 h
theorem repL_erase {K : PySem.W.Frag} {μ : List Addr} {H : Hp} {ds : List D} {vs : List V} (i : Nat) (r : RepL K μ H ds vs) : RepL K μ H (ds.eraseIdx i) (vs.eraseIdx i) := by
  rw [List.eraseIdx_eq_take_drop_succ, List.eraseIdx_eq_take_drop_succ]
  exact (r.take _).append (r.drop _)
open Classical in
/-- o.pop(i) -/
noncomputable def mPopAt (mo me : M D) : M D := fun ρ S => (mo ρ S).bind fun o S1 => match o with
  | .ref n => if isLst S1 n = true then (me ρ S1).bind fun e S2 => match e with
    | .int i => match S2[n]? with
      | some (.lst ds) => if In63 i then match seqIndex? i ds.length with
        | some k => match ds[k]? with
          | some d => .ok d (S2.set n (.lst (ds.eraseIdx k)))
          | none => .fail
        | none => .fail
        else .fail
      | _ => .fail
    | _ => .fail
    else .fail
  | _ => .fail
theorem ev_popAt {o e : Expr} {apos pos : Pos} {mo me : M D} (ho : EvE X W o mo) (he : EvE X W e me) (hb : notCall0 o = true) (hs : notStar e = true) (hline : (apos.endLine == pos.line) = true) :
    EvE X W (.Call (.Attribute o "pop" apos) [e] [] pos) (mPopAt mo me) := by
  refine EvE.of_pe (pe_bm (T := "list") (id := "list.pop") PySem.F.plainAttrs_list PySem.F.slot_list_pop PySem.F.type_list_pop mt_popAt ho.pe (pa_one he hs) (base_of hb _) (by rw [star_of hs]; rfl) hline (star_of hs) rfl) fun σ H μ S ρ R E F => ?_
  unfold mPopAt at F ⊢
  refine tm1 R E F fun d S1 v μ1 H1 e1 st x R1 E1 F1 => ?_
  rw [e1, bind_ok]
  split at F1
  · rename_i n
    split at F1
    · rename_i hl
      obtain ⟨ds0, h0⟩ := isLst_ok hl
      obtain ⟨a, vs, rfl, ha, hH, _⟩ := sql_at R1 h0 x
      refine ⟨tyV_lst hH, ?_⟩
      simp only [hl, if_true]
      refine tm1 R1 E1 F1 fun d2 S2 w μ2 H2 e2 st2 x2 R2 E2 F2 => ?_
      rw [e2, bind_ok]
      split at F2
      · rename_i i
        split at F2
        · rename_i ds hn
          split at F2
          · rename_i hi
            split at F2
            · rename_i k hk
              split at F2
              · rename_i d hd
                have xr : ResOk X.K X.mg μ2 H2 H2 (.ref n) (.ref a) := ResOk.step R1 st2 x |> fun z => ResOk.plain (z.rep rfl)
                obtain ⟨a', vs', ea, ha2, hH2, rl⟩ := sql_at R2 hn xr
                cases ea
                obtain ⟨y, hy, ry⟩ := repL_get rl hd
                refine ⟨a, vs', i, k, y, rfl, by rw [rep_int x2], hH2, hi.1, hi.2, by rw [← rl.length]; exact hk, hy, ?_⟩
                have stw := Step.write (K := X.K) (mg := X.mg) (n := n) (C := 0) (dx := 0) (c := .lst (ds.eraseIdx k)) (vs := vs'.eraseIdx k) R2 ha2 trivial trivial (repL_erase k rl)
                refine ⟨d, _, μ2, ?_, st.trans R (st2.trans R1 stw), ResOk.plain (stw.rep R2 ry)⟩
                simp only [hi, hk, hd, and_self, if_true]
              · exact F2.elim
            · exact F2.elim
          · exact F2.elim
        · exact F2.elim
      · exact F2.elim
    · exact F1.elim
  · exact F1.elim

/-! ### x += e -/
def sAug (i : Nat) (f : Int → Int → Int) (me : M D) : MS := fun ρ S => match ρ[i]? with
  | some (some (.int a)) => (me ρ S).s ρ fun d S1 => match d with
    | .int b => .next (ρ.set i (some (.int (f a b)))) S1
    | _ => .fail
  | _ => .fail
end
end Ev
/-! Ev10: what the printed terms lean on. -/
namespace Ev
open PySem PySem.Spec PyProof.Rows L2

def visB (sc : Scope) (x : Str) : Bool := match sc.names.lookup x with
  | some .local => true
  | some .cell => true
  | some .free => true
  | _ => false
theorem vis_of {sc : Scope} {x : Str} (h : visB sc x = true) : Vis sc x := by
  unfold visB at h
  split at h
  · exact .inl (by assumption)
  · exact .inr (.inl (by assumption))
  · exact .inr (.inr (by assumption))
  · cases h
def locB (sc : Scope) (x : Str) : Bool := match sc.names.lookup x with
  | some .local => true
  | some .cell => true
  | _ => false
theorem loc_of {sc : Scope} {x : Str} (h : locB sc x = true) : Loc sc x := by
  unfold locB at h
  split at h
  · exact .inl (by assumption)
  · exact .inr (by assumption)
  · cases h
theorem takes0 {X : Cx} : L2N.Takes X W0 := fun u s' ⟨_, _, _, _, _, _, _, _, _, _, _, _, _, _, _, _, h⟩ => h.elim
/-- a def that may be called, with room for k calls within one another -/
structure Cal (P : Program) (w : World) (K : PySem.W.Frag) (mg : Str → Option Value) (base : Heap) (x : Str) (n : Nat) (f : Fn) (k : Nat) : Prop where
  ex : ∃ (a : Addr) (fd : FuncData) (ps : List Str), mg x = some (.ref a) ∧ PySem.W.keepIn K (.ref a) = true ∧ Binds K fd ps [] ∧ FnG P w K mg base (L2N.CX P w) k a fd ps (spOf K mg n f)
theorem Cal.ok {X : Cx} {x : Str} {n : Nat} {f : Fn} {k : Nat} (c : Cal X.prog X.w X.K X.mg X.base x n f k) (hr : Rm k X.A) : CallOk X x n f :=
  let ⟨a, fd, ps, h1, h2, h3, h4⟩ := c.ex
  ⟨⟨a, fd, ps, k, h1, h2, h3, hr, h4⟩⟩

theorem fn_fail {P : Program} {w : World} {K : PySem.W.Frag} {mg : Str → Option Value} {base : Heap} {CX : CXT} {k : Nat} {fa : Addr} {fd : FuncData} {ps : List Str} {n : Nat} : FnG P w K mg base CX k fa fd ps (spOf K mg n fun _ _ => .fail) :=
  ⟨fun vs H Q E h => by obtain ⟨_, _, _, _, _, _, z⟩ := h; exact z.elim, fun A outer s H args us vs Q E hr he hb hv hs => by obtain ⟨_, _, _, _, _, _, z⟩ := hs; exact z.elim⟩
/-! ### the law's end -/
theorem cx_false {P : Program} {w : World} {H : Hp} {s : Shared} {e : Value} {s' : Shared} (h : L2N.CX P w [] H s (fun _ _ _ => False) e s') : False := by
  obtain ⟨_, _, _, _, _, _, _, _, _, _, _, _, z⟩ := h
  exact z
end Ev
/-! Ev11: plain tools: what the printed terms come to. -/
namespace Ev
open PySem PySem.Spec PyProof.Rows L2

/-! ### one step -/
section
variable {i : Nat} {ρ : Env'} {S : Store} {d e : D} {a b : M D} {g : D → D → Store → Option D}
@[simp] theorem x_var : mVar i ρ S = match ρ[i]? with
    | some (some d) => .ok d S
    | _ => .fail := (rfl)
@[simp] theorem x_lit : mLit d ρ S = .ok d S := (rfl)
@[simp] theorem x_bin : mBin g a b ρ S = (a ρ S).bind fun d S1 => (b ρ S1).bind fun e S2 => Out.of (g d e S2) S2 := (rfl)
@[simp] theorem x_neg : mNeg a ρ S = (a ρ S).bind fun d S1 => match d with
  | .int i => .ok (.int (-i)) S1
  | _ => .fail := (rfl)
@[simp] theorem x_tru : mTru a ρ S = (a ρ S).bind fun d S1 => Out.of (truD S1 d) S1 := (rfl)
@[simp] theorem x_notT {m : M Bool} : mNotT m ρ S = (m ρ S).bind fun b S1 => .ok (!b) S1 := (rfl)
@[simp] theorem x_notV : mNotV a ρ S = (a ρ S).bind fun d S1 => match truD S1 d with
  | some b => .ok (.bl (!b)) S1
  | none => .fail := (rfl)
@[simp] theorem x_ite {c : M Bool} {α : Type} {a b : M α} : mIte c a b ρ S = (c ρ S).bind fun k S1 => if k = true then a ρ S1 else b ρ S1 := (rfl)
@[simp] theorem x_endT {b : Bool} : mEndT b ρ S = .ok b S := (rfl)
@[simp] theorem x_andT {a b : M Bool} : mAndT a b ρ S = (a ρ S).bind fun k S1 => if k = true then b ρ S1 else .ok false S1 := (rfl)
@[simp] theorem x_orT {a b : M Bool} : mOrT a b ρ S = (a ρ S).bind fun k S1 => if k = true then .ok true S1 else b ρ S1 := (rfl)
@[simp] theorem x_andV : mAndV a b ρ S = (a ρ S).bind fun d S1 => match d with
  | .bl true => b ρ S1
  | .bl false => .ok (.bl false) S1
  | _ => .fail := (rfl)
@[simp] theorem x_orV : mOrV a b ρ S = (a ρ S).bind fun d S1 => match d with
  | .bl true => .ok (.bl true) S1
  | .bl false => b ρ S1
  | _ => .fail := (rfl)
@[simp] theorem x_noPart : mNoPart ρ S = .ok none S := (rfl)
@[simp] theorem x_part : mPart a ρ S = (a ρ S).bind fun d S1 => match d with
  | .int i => .ok (some i) S1
  | _ => .fail := (rfl)
@[simp] theorem x_cut {l h : M (Option Int)} : mCut a l h ρ S = (a ρ S).bind fun d S1 => (l ρ S1).bind fun l S2 => (h ρ S2).bind fun h S3 => Out.of (cutD d l h S3) S3 := (rfl)
@[simp] theorem x_rev : mRev a ρ S = (a ρ S).bind fun d S1 => match seqL S1 d with
  | some ds => .ok (.lst ds.reverse) S1
  | none => .fail := (rfl)
@[simp] theorem x_nil : mNil ρ S = .ok [] S := (rfl)
@[simp] theorem x_cons {r : M (List D)} : mCons a r ρ S = (a ρ S).bind fun d S1 => (r ρ S1).bind fun ds S2 => .ok (d :: ds) S2 := (rfl)
@[simp] theorem x_tup {r : M (List D)} : mTup r ρ S = (r ρ S).bind fun ds S1 => if ds.length ≤ sizeLine then .ok (.tup (boxL ds S1).1) (boxL ds S1).2 else .fail := (rfl)
@[simp] theorem x_lst {r : M (List D)} : mLst r ρ S = (r ρ S).bind fun ds S1 => if ds.length ≤ sizeLine then .ok (.lst (boxL ds S1).1) (boxL ds S1).2 else .fail := (rfl)
@[simp] theorem x_call {n : Nat} {f : Fn} {r : M (List D)} : mCall n f r ρ S = (r ρ S).bind fun ds S1 => if ds.length = n then f ds S1 else .fail := (rfl)
@[simp] theorem x_blt {g : List D → Store → Option D} {r : M (List D)} : mBlt g r ρ S = (r ρ S).bind fun ds S1 => Out.of (g ds S1) S1 := (rfl)
@[simp] theorem x_isi {T : Ty} : mIsi T a ρ S = (a ρ S).bind fun d S1 => Out.of (isiD T d S1) S1 := (rfl)
@[simp] theorem x_rgL {t : Bool} {r : M (List D × Guard)} : mRgL t r ρ S = (r ρ S).bind fun p S1 => if p.1.length ≤ 2 ^ 24 then .ok (if t then .tup p.1 else .lst p.1) S1 else .fail := (rfl)
@[simp] theorem x_app : mApp a b ρ S = (a ρ S).bind fun o S1 => match o with
  | .ref n => if isLst S1 n = true then (b ρ S1).bind fun d S2 => match (box d S2).2[n]? with
    | some (.lst ds) => if ds.length < sizeLine then .ok .non ((box d S2).2.set n (.lst (ds ++ [(box d S2).1]))) else .fail
    | _ => .fail
    else .fail
  | _ => .fail := (rfl)
@[simp] theorem x_iter : mIter a ρ S = (a ρ S).bind fun d S1 => Out.of (itemsD S1 d) S1 := (rfl)
open Classical in
@[simp] theorem x_range1 : mRange1 a ρ S = (a ρ S).bind fun d S1 => match d with
  | .int j => if In62 j then .ok (rangeL 0 j.toNat, []) S1 else .fail
  | _ => .fail := (rfl)
open Classical in
@[simp] theorem x_range2 : mRange2 a b ρ S = (a ρ S).bind fun d S1 => (b ρ S1).bind fun e S2 => match d, e with
  | .int i, .int j => if In62 i ∧ In62 j then .ok (rangeL i (j - i).toNat, []) S2 else .fail
  | _, _ => .fail := (rfl)
@[simp] theorem x_bName : bName i d ρ = some (ρ.set i (some d)) := (rfl)
@[simp] theorem x_bNil : bNil [] ρ = some ρ := (rfl)
@[simp] theorem x_bCons {b : Bind} {r : BindL} {ds : List D} : bCons b r (d :: ds) ρ = match b d ρ with
  | some ρ1 => r ds ρ1
  | none => none := (rfl)
@[simp] theorem x_bTup {r : BindL} {n : Nat} {ds : List D} : bTup r n (.tup ds) ρ = if ds.length = n then r ds ρ else none := (rfl)
@[simp] theorem x_next : sNext ρ S = .next ρ S := (rfl)
@[simp] theorem x_brk : sBrk ρ S = .brk ρ S := (rfl)
@[simp] theorem x_cont : sCont ρ S = .cont ρ S := (rfl)
@[simp] theorem x_expr : sExpr a ρ S = (a ρ S).s ρ fun _ S1 => .next ρ S1 := (rfl)
@[simp] theorem x_ret : sRet a ρ S = (a ρ S).s ρ fun d S1 => .ret d S1 := (rfl)
@[simp] theorem x_retN : sRetN ρ S = .ret .non S := (rfl)
@[simp] theorem x_if {c : M Bool} {a b : MS} : sIf c a b ρ S = (c ρ S).s ρ fun k S1 => if k = true then a ρ S1 else b ρ S1 := (rfl)
@[simp] theorem x_asg {b : Bind} : sAsg b a ρ S = (a ρ S).s ρ fun d S1 => match b (box d S1).1 ρ with
  | some ρ1 => .next ρ1 (box d S1).2
  | none => .fail := (rfl)
@[simp] theorem x_aug {f : Int → Int → Int} : sAug i f a ρ S = match ρ[i]? with
  | some (some (.int x)) => (a ρ S).s ρ fun d S1 => match d with
    | .int y => .next (ρ.set i (some (.int (f x y)))) S1
    | _ => .fail
  | _ => .fail := (rfl)
end

theorem x_seqM {a b : MS} {ρ : Env'} {S : Store} : sSeq a b ρ S = match a ρ S with
  | .next ρ1 S1 => b ρ1 S1
  | r => r := (rfl)
theorem run_ret {body : MS} {n : Nat} {ds : List D} {S S2 S3 : Store} {d r : D} (e : body ((boxL ds S).1.map some ++ List.replicate (n - ds.length) none) (boxL ds S).2 = .ret d S2) (c : closeD S d S2 = (r, S3)) : runBody body n ds S = .ok r S3 := by
  unfold runBody
  rw [e]
  show Out.ok (closeD S d S2).1 (closeD S d S2).2 = _
  rw [c]
/-! ### boxes, stores -/
section
variable {S T : Store} {c : Cell} {k : Nat}
@[simp] theorem box_non : box .non S = (.non, S) := rfl
@[simp] theorem box_bl {b : Bool} : box (.bl b) S = (.bl b, S) := rfl
@[simp] theorem box_int {i : Int} : box (.int i) S = (.int i, S) := rfl
@[simp] theorem box_str {x : Str} : box (.str x) S = (.str x, S) := rfl
@[simp] theorem box_tup {ds : List D} : box (.tup ds) S = (.tup ds, S) := rfl
@[simp] theorem box_ref {n : Nat} : box (.ref n) S = (.ref n, S) := rfl
@[simp] theorem box_fro {ds : List D} : box (.fro ds) S = (.fro ds, S) := rfl
@[simp] theorem box_lst {ds : List D} : box (.lst ds) S = (.ref S.length, S ++ [.lst ds]) := rfl
@[simp] theorem boxL_nil : boxL [] S = ([], S) := rfl
@[simp] theorem boxL_cons {d : D} {ds : List D} : boxL (d :: ds) S = ((box d S).1 :: (boxL ds (box d S).2).1, (boxL ds (box d S).2).2) := rfl
@[simp] theorem getT : (S ++ T)[S.length + k]? = T[k]? := by
  rw [List.getElem?_append_right (by omega)]; congr 1; omega
@[simp] theorem getT0 : (S ++ T)[S.length]? = T[0]? := getT (k := 0)
@[simp] theorem setT : (S ++ T).set (S.length + k) c = S ++ T.set k c := by
  rw [List.set_append_right _ _ (by omega)]; congr 2; omega
@[simp] theorem setT0 : (S ++ T).set S.length c = S ++ T.set 0 c := setT (k := 0)
@[simp] theorem isLst_T {ds : List D} {n : Nat} (h : S[n]? = some (.lst ds)) : isLst S n = true := by unfold isLst; rw [h]
@[simp] theorem seqL_lst {ds : List D} : seqL S (.lst ds) = some ds := rfl
@[simp] theorem seqL_fro {ds : List D} : seqL S (.fro ds) = some ds := rfl
@[simp] theorem seqL_ref {n : Nat} : seqL S (.ref n) = match S[n]? with
    | some (.lst ds) => some ds
    | _ => none := rfl
@[simp] theorem seqL_tup {ds : List D} : seqL S (.tup ds) = none := rfl
@[simp] theorem seqL_int {i : Int} : seqL S (.int i) = none := rfl
@[simp] theorem seqL_str {i : Str} : seqL S (.str i) = none := rfl
@[simp] theorem seqL_non : seqL S .non = none := rfl
@[simp] theorem seqL_bl {i : Bool} : seqL S (.bl i) = none := rfl
@[simp] theorem seqW_lst {ds : List D} : seqW S (.lst ds) = some ds := rfl
@[simp] theorem seqW_ref {n : Nat} : seqW S (.ref n) = match S[n]? with
    | some (.lst ds) => some ds
    | _ => none := rfl
@[simp] theorem seqT_tup {ds : List D} : seqT (.tup ds) = some ds := rfl
@[simp] theorem seqT_ref {n : Nat} : seqT (.ref n) = none := rfl
@[simp] theorem seqT_lst {ds : List D} : seqT (.lst ds) = none := rfl
@[simp] theorem seqT_fro {ds : List D} : seqT (.fro ds) = none := rfl
@[simp] theorem seqA_tup {ds : List D} : seqA S (.tup ds) = some ds := rfl
@[simp] theorem seqA_lst {ds : List D} : seqA S (.lst ds) = some ds := rfl
@[simp] theorem seqA_fro {ds : List D} : seqA S (.fro ds) = some ds := rfl
@[simp] theorem seqA_ref {n : Nat} : seqA S (.ref n) = match S[n]? with
    | some (.lst ds) => some ds
    | _ => none := rfl
theorem getTs {n : Nat} {c2 : Cell} : (S.set n c2 ++ T)[S.length + k]? = T[k]? := by
  have := getT (S := S.set n c2) (T := T) (k := k); rwa [List.length_set] at this
theorem getTs0 {n : Nat} {c2 : Cell} : (S.set n c2 ++ T)[S.length]? = T[0]? := getTs (k := 0)
theorem setTs {n : Nat} {c2 : Cell} : (S.set n c2 ++ T).set (S.length + k) c = S.set n c2 ++ T.set k c := by
  have := setT (S := S.set n c2) (T := T) (k := k) (c := c); rwa [List.length_set] at this
theorem setTs0 {n : Nat} {c2 : Cell} : (S.set n c2 ++ T).set S.length c = S.set n c2 ++ T.set 0 c := setTs (k := 0)
theorem closeD_same {d : D} : closeD S d S = (d, S) := by
  have ht : S.take S.length = S := List.take_length
  unfold closeD
  split
  · split
    · rw [ht]
    · rename_i hl
      split
      · rename_i k
        split
        · rename_i c hk
          exact absurd (decide_eq_true (List.getElem?_eq_some_iff.mp hk).1) hl
        · rfl
      · rfl
  · rfl
theorem Clean.app (T : Store) : Clean S (S ++ T) := fun k hk => .inl (List.getElem?_append_left hk)
theorem closeD_app {d : D} (h : d.lo S.length = true) : closeD S d (S ++ T) = (d, S) := by
  unfold closeD
  rw [if_pos (Clean.app T), if_pos h]
  simp
theorem closeD_new {ds : List D} (h : loL S.length ds = true) (hk : T[k]? = some (.lst ds)) : closeD S (.ref (S.length + k)) (S ++ T) = (.lst ds, S) := by
  unfold closeD
  rw [if_pos (Clean.app T), if_neg (by unfold D.lo; simp)]
  dsimp only
  rw [getT, hk]
  dsimp only
  have hc : (Cell.lst ds).lo S.length = true := h
  rw [if_pos hc]
  simp [Cell.d]
theorem loL_of {n : Nat} {ds : List D} (h : ∀ d ∈ ds, d.lo n = true) : loL n ds = true := by
  induction ds with
  | nil => unfold loL; rfl
  | cons d ds ih => unfold loL; rw [h d (by simp), ih fun x hx => h x (by simp [hx])]; rfl
@[simp] theorem lo_int {n : Nat} {i : Int} : (D.int i).lo n = true := by unfold D.lo; rfl
@[simp] theorem lo_bl {n : Nat} {i : Bool} : (D.bl i).lo n = true := by unfold D.lo; rfl
@[simp] theorem lo_str {n : Nat} {i : Str} : (D.str i).lo n = true := by unfold D.lo; rfl
@[simp] theorem lo_non {n : Nat} : D.non.lo n = true := by unfold D.lo; rfl
@[simp] theorem lo_tup {n : Nat} {ds : List D} : (D.tup ds).lo n = loL n ds := by unfold D.lo; rfl
theorem lo_ints {n : Nat} {ns : List Int} : loL n (ns.map D.int) = true := loL_of fun d hd => by
  obtain ⟨i, _, rfl⟩ := List.mem_map.mp hd; simp
end

/-! ### loops -/
/-! ### equality -/
section
variable {S : Store} {d e : D} {ns ms : List Int}
@[simp] theorem eqD_int {i j : Int} : eqD S (.int i) (.int j) = some (decide (i = j)) := by
  have h : ∀ i : Int, SeqAt.shaped (.int i) = true := fun i => by unfold SeqAt.shaped PyData.canLay0 PyData.depth; rfl
  unfold eqD py
  dsimp only
  rw [if_pos ⟨h i, h j⟩]
  unfold PyData.eqv
  by_cases h : i = j <;> simp [h]
@[simp] theorem eqD_bl {i j : Bool} : eqD S (.bl i) (.bl j) = some (decide (i = j)) := by
  have h : ∀ i : Bool, SeqAt.shaped (.bool i) = true := fun i => by unfold SeqAt.shaped PyData.canLay0 PyData.depth; rfl
  unfold eqD py
  dsimp only
  rw [if_pos ⟨h i, h j⟩]
  unfold PyData.eqv
  cases i <;> cases j <;> rfl
end
@[simp] theorem cmp_eq {d e : D} {S : Store} : cmpD .Eq d e S = match eqD S d e with
  | some b => some (.bl b)
  | none => none := by
  show eqC false d e S = _
  unfold eqC
  split <;> simp_all
@[simp] theorem cmp_ne {d e : D} {S : Store} : cmpD .NotEq d e S = match eqD S d e with
  | some b => some (.bl (!b))
  | none => none := by
  show eqC true d e S = _
  unfold eqC
  split <;> simp_all
@[simp] theorem cmp_lt {i j : Int} {S : Store} : cmpD .Lt (.int i) (.int j) S = some (.bl (decide (i < j))) := rfl
@[simp] theorem cmp_le {i j : Int} {S : Store} : cmpD .LtE (.int i) (.int j) S = some (.bl (decide (i ≤ j))) := rfl
@[simp] theorem cmp_gt {i j : Int} {S : Store} : cmpD .Gt (.int i) (.int j) S = some (.bl (decide (j < i))) := rfl
@[simp] theorem cmp_ge {i j : Int} {S : Store} : cmpD .GtE (.int i) (.int j) S = some (.bl (decide (j ≤ i))) := rfl
@[simp] theorem cmp_is {d e : D} {S : Store} : cmpD .Is d e S = isD false d e S := rfl
@[simp] theorem cmp_isnot {d e : D} {S : Store} : cmpD .IsNot d e S = isD true d e S := rfl
@[simp] theorem cmp_in {d e : D} {S : Store} : cmpD .In d e S = inD false d e S := rfl
@[simp] theorem cmp_notin {d e : D} {S : Store} : cmpD .NotIn d e S = inD true d e S := rfl
@[simp] theorem bin_add {i j : Int} {S : Store} : binD .Add (.int i) (.int j) S = some (.int (i + j)) := rfl
@[simp] theorem bin_sub {d e : D} {S : Store} : binD .Sub d e S = intC (fun _ _ => True) (fun i j => i - j) d e S := rfl
@[simp] theorem bin_mod {d e : D} {S : Store} : binD .Mod d e S = intC (fun _ j => 0 < j) (fun i j => i % j) d e S := rfl
@[simp] theorem bin_div {d e : D} {S : Store} : binD .FloorDiv d e S = intC (fun _ j => 0 < j ∧ j.natAbs.log2 < 9000) (fun i j => i / j) d e S := rfl
@[simp] theorem bin_pow {d e : D} {S : Store} : binD .Pow d e S = intC (fun i j => 0 ≤ j ∧ j ≤ 1000000 ∧ i.natAbs < 2 ^ 64) (fun i j => i ^ j.toNat) d e S := rfl
@[simp] theorem bin_shl {d e : D} {S : Store} : binD .LShift d e S = intC (fun i j => 0 ≤ j ∧ j ≤ 1000000 ∧ i.natAbs < 2 ^ 64) (fun i j => i * 2 ^ j.toNat) d e S := rfl
@[simp] theorem bin_shr {d e : D} {S : Store} : binD .RShift d e S = intC (fun _ j => 0 ≤ j) (fun i j => i / 2 ^ j.toNat) d e S := rfl
@[simp] theorem bin_and {d e : D} {S : Store} : binD .BitAnd d e S = intC (fun _ _ => True) Builtin.bitAnd d e S := rfl
@[simp] theorem bin_or {d e : D} {S : Store} : binD .BitOr d e S = intC (fun _ _ => True) Builtin.bitOr d e S := rfl
theorem bin_mul {i j : Int} {S : Store} (h : i.natAbs.log2 + j.natAbs.log2 < 100000000) : binD .Mult (.int i) (.int j) S = some (.int (i * j)) := by
  show (if i.natAbs.log2 + j.natAbs.log2 < 100000000 then some (D.int (i * j)) else none) = _
  exact if_pos h
theorem bin_cat {d e : D} {xs ys : List D} {S : Store} (h1 : seqW S d = some xs) (h2 : seqW S e = some ys) (h : xs.length + ys.length ≤ sizeLine) : binD .Add d e S = some (.lst (xs ++ ys)) := by
  show addD d e S = _
  unfold addD
  cases d <;> cases e <;> first | (cases h1; done) | (cases h2; done) | (dsimp only; rw [h1, h2]; exact if_pos h)
theorem beq_tt : (true == true) = true := rfl
theorem beq_ff : (false == false) = true := rfl
theorem beq_tf : (true == false) = false := rfl
theorem beq_ft : (false == true) = false := rfl
@[simp] theorem isD_bb {n a b : Bool} {S : Store} : isD n (.bl a) (.bl b) S = some (.bl (if n then !(a == b) else a == b)) := rfl
@[simp] theorem isD_nn {n : Bool} {S : Store} : isD n .non .non S = some (.bl (!n)) := rfl
@[simp] theorem isD_in {n : Bool} {i : Int} {S : Store} : isD n (.int i) .non S = some (.bl n) := rfl
@[simp] theorem isD_tn {n : Bool} {i : List D} {S : Store} : isD n (.tup i) .non S = some (.bl n) := rfl
@[simp] theorem isD_sn {n : Bool} {i : Str} {S : Store} : isD n (.str i) .non S = some (.bl n) := rfl
@[simp] theorem isD_rn {n : Bool} {i : Nat} {S : Store} : isD n (.ref i) .non S = some (.bl n) := rfl
@[simp] theorem isi_non {T : Ty} {S : Store} : isiD T .non S = some (.bl false) := rfl
@[simp] theorem isi_bl {T : Ty} {b : Bool} {S : Store} : isiD T (.bl b) S = some (.bl (decide (T = .int ∨ T = .bool))) := rfl
@[simp] theorem isi_int {T : Ty} {b : Int} {S : Store} : isiD T (.int b) S = some (.bl (decide (T = .int))) := rfl
@[simp] theorem isi_str {T : Ty} {b : Str} {S : Store} : isiD T (.str b) S = some (.bl (decide (T = .str))) := rfl
@[simp] theorem isi_tup {T : Ty} {b : List D} {S : Store} : isiD T (.tup b) S = some (.bl (decide (T = .tuple))) := rfl
@[simp] theorem isi_ref {T : Ty} {n : Nat} {S : Store} : isiD T (.ref n) S = match seqL S (.ref n) with
    | some _ => some (.bl (decide (T = .list)))
    | none => none := rfl
theorem range_len {lo : Int} {n : Nat} : (rangeL lo n).length = n := by simp [rangeL]
@[simp] theorem items_tup {ds : List D} {S : Store} : itemsD S (.tup ds) = some (ds, []) := rfl
@[simp] theorem items_lst {ds : List D} {S : Store} : itemsD S (.lst ds) = some (ds, []) := rfl
@[simp] theorem items_fro {ds : List D} {S : Store} : itemsD S (.fro ds) = some (ds, []) := rfl
@[simp] theorem items_ref {n : Nat} {S : Store} : itemsD S (.ref n) = match S[n]? with
    | some (.lst ds) => some (ds, [(n, ds)])
    | _ => none := rfl
theorem cutL_from {α : Type} {xs : List α} {k : Nat} (h : k ≤ xs.length) : cutL xs (some (k : Int)) none = xs.drop k := by
  unfold cutL
  rw [HT.sIx_nat, HT.sIx_none, Nat.min_eq_left h]
  exact List.take_of_length_le (by simp)
/-- a store of which one cell of ints is written -/
theorem closeD_set {S S' T : Store} {d : D} {n : Nat} {ds : List D} (hS : S' = S.set n (.lst ds)) (hl : loL S.length ds = true) (h : d.lo S.length = true) : closeD S d (S' ++ T) = (d, S') := by
  have hlen : S'.length = S.length := by rw [hS, List.length_set]
  have hc : Clean S (S' ++ T) := fun k hk => by
    rw [List.getElem?_append_left (by omega), hS, List.getElem?_set]
    by_cases e : n = k
    · rw [if_pos e, if_pos (by omega)]; exact .inr ⟨_, rfl, hl⟩
    · rw [if_neg e]; exact .inl rfl
  unfold closeD
  rw [if_pos hc, if_pos h, List.take_append_of_le_length (by omega), List.take_of_length_le (by omega)]
theorem blt_lenA {d : D} {ds : List D} {S : Store} (h : seqA S d = some ds) (hs : ∀ x, d ≠ .str x) : bltD .len [d] S = some (.int ds.length) := by
  show lenD d S = _
  unfold lenD
  split
  · exact absurd rfl (hs _)
  · rw [h]
theorem blt_listA {d : D} {ds : List D} {S : Store} (h : seqA S d = some ds) : bltD .list [d] S = some (.lst ds) := by
  show listD d S = _
  unfold listD
  rw [h]
@[simp] theorem tru_bl {b : Bool} {S : Store} : truD S (.bl b) = some b := rfl
@[simp] theorem tru_int {i : Int} {S : Store} : truD S (.int i) = some (i != 0) := rfl
@[simp] theorem tru_non {S : Store} : truD S .non = some false := rfl
end Ev
/-! Ev12: xs[i] = e, chains, enumerate, sorted of tuples, and more methods. -/
namespace Ev
open PySem PySem.Spec PyProof.Rows L2
section
variable {X : Cx} {W : WX}

/-! ### o[i] = e -/
def sSub (me mo mi : M D) : MS := fun ρ S => (me ρ S).s ρ fun d S1 => (mo ρ (box d S1).2).s ρ fun o S2 => (mi ρ S2).s ρ fun i S3 => match o, i with
  | .ref n, .int k => match S3[n]? with
    | some (.lst ds) => match ixN ds.length k with
      | some j => .next ρ (S3.set n (.lst (ds.set j (box d S1).1)))
      | none => .fail
    | _ => .fail
  | _, _ => .fail
/-! ### enumerate -/
/-- the items with their places -/
def enumL : Nat → List D → List D
  | _, [] => []
  | k, d :: ds => .tup [.int (k : Nat), d] :: enumL (k + 1) ds
def mEnum (m : M D) : M (List D × Guard) := fun ρ S => (m ρ S).bind fun d S1 => match d with
  | .tup ds => .ok (enumL 0 ds, []) S1
  | .lst ds => .ok (enumL 0 ds, []) S1
  | .fro ds => .ok (enumL 0 ds, []) S1
  | .ref n => match S1[n]? with
    | some (.lst ds) => .ok (enumL 0 ds, [(n, ds)]) S1
    | _ => .fail
  | _ => .fail
section
variable {K : PySem.W.Frag} {mg : Str → Option Value} {μ : List Addr} {H0 H : Hp} {S : Store}
end
end
section
variable {ρ : Env'} {S : Store} {me mo mi : M D}
theorem x_sub : sSub me mo mi ρ S = (me ρ S).s ρ fun d S1 => (mo ρ (box d S1).2).s ρ fun o S2 => (mi ρ S2).s ρ fun i S3 => match o, i with
  | .ref n, .int k => match S3[n]? with
    | some (.lst ds) => match ixN ds.length k with
      | some j => .next ρ (S3.set n (.lst (ds.set j (box d S1).1)))
      | none => .fail
    | _ => .fail
  | _, _ => .fail := (rfl)
theorem x_pop : mPop mo ρ S = (mo ρ S).bind fun o S1 => match o with
  | .ref n => match S1[n]? with
    | some (.lst ds) => match ds[ds.length - 1]? with
      | some d => .ok d (S1.set n (.lst ds.dropLast))
      | none => .fail
    | _ => .fail
  | _ => .fail := (rfl)
open Classical in
theorem x_popAt : mPopAt mo me ρ S = (mo ρ S).bind fun o S1 => match o with
  | .ref n => if isLst S1 n = true then (me ρ S1).bind fun e S2 => match e with
    | .int i => match S2[n]? with
      | some (.lst ds) => if In63 i then match seqIndex? i ds.length with
        | some k => match ds[k]? with
          | some d => .ok d (S2.set n (.lst (ds.eraseIdx k)))
          | none => .fail
        | none => .fail
        else .fail
      | _ => .fail
    | _ => .fail
    else .fail
  | _ => .fail := (rfl)
theorem x_enum : mEnum mo ρ S = (mo ρ S).bind fun d S1 => match d with
  | .tup ds => .ok (enumL 0 ds, []) S1
  | .lst ds => .ok (enumL 0 ds, []) S1
  | .fro ds => .ok (enumL 0 ds, []) S1
  | .ref n => match S1[n]? with
    | some (.lst ds) => .ok (enumL 0 ds, [(n, ds)]) S1
    | _ => .fail
  | _ => .fail := (rfl)
end
/-- ints from nought -/
def iota (n : Nat) : List Int := (List.range n).map fun (i : Nat) => (i : Int)
theorem range_iota {n : Nat} : rangeL 0 n = (iota n).map D.int := by
  unfold rangeL iota
  rw [List.map_map]
  refine List.map_congr_left fun i _ => ?_
  simp
end Ev
/-! Ev13: raise, try. -/
namespace Ev
open PySem PySem.Spec PyProof.Rows L2
section
variable {X : Cx} {W : WX}
/-- an own class of exceptions without an __init__ of its own -/
structure ExcOk (X : Cx) (x : Str) : Prop where
  ex : ∃ (C : Addr) (B newId initId : String) (bmB : List Value), ExcBaseFacts B newId initId bmB ∧ PySem.W.excIn X.K C bmB newId = true ∧ X.mg x = some (.ref C) ∧ PySem.W.keepIn X.K (.ref C) = true ∧ Raises X (.ref C)
def sRaise (x : Str) : MS := fun ρ S => .exc x [] [] ρ S
theorem evs_raise {x m : Str} {j : Nat} {p p2 pos pos' : Pos} (hc : X.calm = true) (tk : L2N.Takes X W) (hx : ExcOk X x) (hg : Gl X x) (hdb : (x == ("__debug__" : Str)) = false) :
    EvS X W (.Raise (some (.Call (.Name x p) [.Constant (.str m) j p2] [] pos)) none pos') (sRaise x) := by
  obtain ⟨C, B, newId, initId, bmB, F, q, gC, kC, r⟩ := hx.ex
  refine PS.imp (L2N.ps_raise hc tk (L2N.pmk_own F q gC kC r hg hdb)) fun E σ H ⟨μ, S, ρ, R, En, G⟩ => ?_
  exact G (.ref C) none σ μ H (Step.refl R) En ⟨C, gC, rfl, rfl, rfl⟩
end
end Ev
/-! Ev14: zip. -/
namespace Ev
open PySem PySem.Spec PyProof.Rows L2
/-- the items in pairs -/
def zipL (ds es : List D) : List D := List.zipWith (fun d e => .tup [d, e]) ds es
def heldD (S : Store) (d : D) : Option (List D × Guard) := match d with
  | .tup _ => none
  | .str _ => none
  | d => itemsD S d
def zipD (S : Store) (d e : D) : Option (List D × Guard) := match seqT d, seqT e with
  | some ds, some es => some (zipL ds es, [])
  | _, _ => match heldD S d, heldD S e with
    | some (ds, g), some (es, g') => some (zipL ds es, g ++ g')
    | _, _ => none
def mZip (m m' : M D) : M (List D × Guard) := fun ρ S => (m ρ S).bind fun d S1 => (m' ρ S1).bind fun e S2 => Out.of (zipD S2 d e) S2
section
variable {K : PySem.W.Frag} {mg : Str → Option Value} {μ : List Addr} {H0 H : Hp} {S : Store}
end
section
variable {X : Cx} {W : WX}
end
end Ev
/-! Ev15: chains. -/
namespace Ev
open PySem PySem.Spec PyProof.Rows L2
section
variable {X : Cx} {W : WX}
/-- an operation of the evaluator as a two-place operation of the layer below -/
def rD (X : Cx) (g : D → D → Store → Option D) : R2 := fun x y H Q => ∃ μ S H0 d e res, Rel X.K X.mg μ S H ∧ ResOk X.K X.mg μ H0 H d x ∧ ResOk X.K X.mg μ H0 H e y ∧ g d e S = some res ∧
  ∀ v' H', Step X.K X.mg μ H μ S H' → ResOk X.K X.mg μ H H' res v' → Q v' H'
theorem OpD.opr {f : Value → Value → Sem Value} {g : D → D → Store → Option D} (h : OpD X f g) : OpR X f (rD X g) := by
  intro pins s σ H x y v u Q I r1 r2 ⟨μ, S, H0, d, e, res, R, x1, x2, eg, q⟩
  exact thn (h pins s σ H μ S H0 d e x y v u res I R x1 x2 r1 r2 eg) fun w s' ⟨v', H', I', r', st, x'⟩ => ⟨v', H', I', r', q v' H' st x'⟩
def blO : Option D → Option D
  | some (.bl k) => some (.bl k)
  | _ => none
theorem blO_some {o : Option D} {r : D} (h : blO o = some r) : o = some r ∧ ∃ k, r = .bl k := by
  unfold blO at h
  split at h
  · cases h; exact ⟨rfl, _, rfl⟩
  · cases h
def mChain (g g' : D → D → Store → Option D) (ma mb mc : M D) : M D := fun ρ S => (ma ρ S).bind fun d S1 => (mb ρ S1).bind fun e S2 => match g d e S2 with
  | some (.bl true) => (mc ρ S2).bind fun f S3 => Out.of (blO (g' e f S3)) S3
  | some (.bl false) => .ok (.bl false) S2
  | _ => .fail
theorem chain_ok {g g' : D → D → Store → Option D} {ma mb mc : M D} {σ : L2.St} {H : Hp} {μ : List Addr} {S : Store} {ρ : Env'} (R : Rel X.K X.mg μ S H) (E : EnvOk X.K μ H ρ σ) (F : Fine X.K X.mg W μ H σ (mChain g g' ma mb mc ρ S)) {Q : VK}
    (q : ∀ d S' v μ' H', mChain g g' ma mb mc ρ S = .ok d S' → Step X.K X.mg μ H μ' S' H' → ResOk X.K X.mg μ' H H' d v → Q v H') :
    tChain (rD X g) (rD X g') (TM X W ma) (TM X W mb) (TM X W mc) σ H Q := by
  unfold mChain at F q
  refine tm1 R E F fun d1 S1 v1 μ1 H1 e1 st1 x1 R1 E1 F1 => ?_
  refine tm1 R1 E1 F1 fun d2 S2 v2 μ2 H2 e2 st2 x2 R2 E2 F2 => ?_
  have q' : ∀ d S' v μ' H', (match g d1 d2 S2 with
      | some (.bl true) => (mc ρ S2).bind fun f S3 => Out.of (blO (g' d2 f S3)) S3
      | some (.bl false) => .ok (.bl false) S2
      | _ => .fail) = .ok d S' → Step X.K X.mg μ H μ' S' H' → ResOk X.K X.mg μ' H H' d v → Q v H' := fun d S' v μ' H' h => q d S' v μ' H' (by rw [e1, bind_ok, e2, bind_ok]; exact h)
  have st12 := st1.trans R st2
  have y1 := x1.step R1 st2
  have y2 := x2.back R st1
  cases hg : g d1 d2 S2 with
  | none => rw [hg] at F2; exact F2.elim
  | some r =>
    rw [hg] at F2 q'
    cases r with
    | bl b =>
      refine ⟨μ2, S2, H, d1, d2, _, R2, y1, y2, hg, fun v' H' st x => ?_⟩
      cases rep_bl x
      refine ⟨b, rfl, ?_⟩
      have R3 := st.rel
      cases b with
      | false =>
        rw [if_neg (by decide)]
        exact q' _ S2 _ μ2 H' rfl (st12.trans R st) (x.back R st12)
      | true =>
        rw [if_pos rfl]
        have E3 := E2.step R2 st
        have F3 := Fine.back R2 st F2
        refine tm1 R3 E3 F3 fun d4 S4 v4 μ4 H4 e4 st4 x4 R4 E4 F4 => ?_
        obtain ⟨res, er⟩ := fine_of F4
        have st34 := st.trans R2 st4
        have st14 := st12.trans R st34
        refine ⟨μ4, S4, H, d2, d4, res, R4, y2.step R2 st34, x4.back R (st12.trans R st), (blO_some er).1, fun v' H5 st5 x5 => ?_⟩
        exact q' _ S4 _ μ4 H5 (by dsimp only; rw [e4, bind_ok, er]; rfl) (st14.trans R st5) (x5.back R st14)
    | _ => exact F2.elim
theorem ev_chain {a b c : Expr} {op op' : CmpOp} {pos : Pos} {ma mb mc : M D} (hu : X.A.units + 64 < cLine) (ha : EvE X W a ma) (hb : EvE X W b mb) (hc : EvE X W c mc) (hm : lastMarks [op, op'] [b, c] = false) :
    EvE X W (.Compare a [op, op'] [b, c] pos) (mChain (cmpD op) (cmpD op') ma mb mc) := by
  refine EvE.of_pe (pe_chain (cmpD_ok hu op).opr (cmpD_ok hu op').opr ha.pe hb.pe hc.pe hm) fun σ H μ S ρ R E F => ?_
  exact chain_ok R E F fun d S' v μ' H' e st x => ⟨d, S', μ', e, st, x⟩
end
section
variable {ρ : Env'} {S : Store} {a b c : M D} {g g' : D → D → Store → Option D}
@[simp] theorem x_blO {k : Bool} : blO (some (.bl k)) = some (.bl k) := rfl
@[simp] theorem x_chain : mChain g g' a b c ρ S = (a ρ S).bind fun d S1 => (b ρ S1).bind fun e S2 => match g d e S2 with
  | some (.bl true) => (c ρ S2).bind fun f S3 => Out.of (blO (g' e f S3)) S3
  | some (.bl false) => .ok (.bl false) S2
  | _ => .fail := (rfl)
@[simp] theorem x_zip : mZip a b ρ S = (a ρ S).bind fun d S1 => (b ρ S1).bind fun e S2 => Out.of (zipD S2 d e) S2 := (rfl)
end
end Ev
/-! Ev16: range of three, list.count. -/
namespace Ev
open PySem PySem.Spec PyProof.Rows L2
def rangeC (lo c : Int) (n : Nat) : List D := (List.range n).map fun i => D.int (lo + (i : Nat) * c)
theorem itc_ok {K : PySem.W.Frag} {mg : Str → Option Value} {μ : List Addr} {H : Hp} {S : Store} {lo c : Int} {n : Nat} : ItOk K mg (Itc lo c n) (rangeC lo c n) [] μ S H := by
  intro μ' S' H' st _
  have hl : (rangeC lo c n).length = n := by simp [rangeC]
  refine ⟨fun i hi => by rw [hl] at hi; exact hi, by rw [hl]; exact Nat.le_refl _, fun i y H2 hi hy => ?_⟩
  obtain ⟨e, ev⟩ := hy
  subst e
  rw [hl] at hi
  refine ⟨Ext.refl, .int (lo + (i : Nat) * c), by simp [rangeC, hi], by unfold Rep; exact ev⟩
/-- how many, and that the bounds are small -/
def rgN (i j c : Int) : Nat := (Builtin.Range.rangeSize i j c).toNat
section
variable {X : Cx} {W : WX}
open Classical in
noncomputable def mRange3 (m m' m3 : M D) : M (List D × Guard) := fun ρ S => (m ρ S).bind fun d S1 => (m' ρ S1).bind fun e S2 => (m3 ρ S2).bind fun f S3 => match d, e, f with
  | .int i, .int j, .int c => if RgC i j c (rgN i j c) then .ok (rangeC i c (rgN i j c), []) S3 else .fail
  | _, _, _ => .fail
theorem evi_range3 {tg a b c : Expr} {m m' m3 : M D} {p pos : Pos} (hg : Gl X "range") (hm : X.mg "range" = none) (ha : EvE X W a m) (hb : EvE X W b m') (hc : EvE X W c m3) (hs : notStar a = true) (hs' : notStar b = true) (hs3 : notStar c = true) :
    EvI X W tg (.Call (.Name "range" p) [a, b, c] [] pos) (mRange3 m m' m3) := by
  refine PI.imp (pi_range3 hg hm (pa_cons ha.pe (pa_cons hb.pe (pa_cons hc.pe pa_nil (star_of hs3)) (star_of hs')) (star_of hs)) (star_of hs) (by rw [star_of hs', star_of hs3]; rfl)) fun σ H R ⟨μ, S, ρ, Re, E, F, q⟩ => ?_
  unfold mRange3 at F q
  refine tm1 Re E F fun d S1 v μ1 H1 e st x R1 E1 F1 => ?_
  refine tm1 R1 E1 F1 fun d2 S2 v2 μ2 H2 e2 st2 x2 R2 E2 F2 => ?_
  refine tm1 R2 E2 F2 fun d3 S3 v3 μ3 H3 e3 st3 x3 R3 E3 F3 => ?_
  split at F3
  · rename_i i j c
    split at F3
    · rename_i hj
      cases rep_int x
      cases rep_int x2
      cases rep_int x3
      exact ⟨i, j, c, _, rfl, hj, q _ S3 μ3 H3 _ (by rw [e, bind_ok, e2, bind_ok, e3, bind_ok]; exact if_pos hj) ((st.trans Re st2).trans Re st3) itc_ok⟩
    · exact F3.elim
  · exact F3.elim
/-- o.count(e), ints -/
def cntD (o : Option (List D)) (e : D) : Option D := match o, e with
  | some ds, .int k => match intsD ds with
    | some ns => some (.int (ns.count k : Nat))
    | none => none
  | _, _ => none
def mCount (mo me : M D) : M D := fun ρ S => (mo ρ S).bind fun o S1 => if (seqL S1 o).isSome = true then (me ρ S1).bind fun e S2 => Out.of (cntD (seqL S2 o) e) S2 else .fail
end
section
variable {ρ : Env'} {S : Store} {a b c : M D}
open Classical in
@[simp] theorem x_range3 : mRange3 a b c ρ S = (a ρ S).bind fun d S1 => (b ρ S1).bind fun e S2 => (c ρ S2).bind fun f S3 => match d, e, f with
  | .int i, .int j, .int c => if RgC i j c (rgN i j c) then .ok (rangeC i c (rgN i j c), []) S3 else .fail
  | _, _, _ => .fail := (rfl)
@[simp] theorem x_count : mCount a b ρ S = (a ρ S).bind fun o S1 => if (seqL S1 o).isSome = true then (b ρ S1).bind fun e S2 => Out.of (cntD (seqL S2 o) e) S2 else .fail := (rfl)
end
end Ev
/-! Ev17: plain tuples, tuple.index. -/
namespace Ev
open PySem PySem.Spec PyProof.Rows L2
section
variable {X : Cx} {W : WX}
/-- a plain tuple is a tuple -/
def weakD : D → D
  | .ptup ds => .tup ds
  | d => d
def mWeak (m : M D) : M D := fun ρ S => (m ρ S).bind fun d S1 => .ok (weakD d) S1
/-- t.index(k), ints, t plain, k in it -/
def pidxD (o e : D) : Option D := match o, e with
  | .ptup ds, .int k => match intsD ds with
    | some ns => if k ∈ ns then some (.int (ns.idxOf k : Nat)) else none
    | none => none
  | _, _ => none
def mTIdx (mo me : M D) : M D := fun ρ S => (mo ρ S).bind fun o S1 => match o with
  | .ptup ds => (me ρ S1).bind fun e S2 => Out.of (pidxD (.ptup ds) e) S2
  | _ => .fail
end
section
variable {ρ : Env'} {S : Store} {a b : M D}
@[simp] theorem x_weak : mWeak a ρ S = (a ρ S).bind fun d S1 => .ok (weakD d) S1 := (rfl)
@[simp] theorem x_tidx : mTIdx a b ρ S = (a ρ S).bind fun o S1 => match o with
  | .ptup ds => (b ρ S1).bind fun e S2 => Out.of (pidxD (.ptup ds) e) S2
  | _ => .fail := (rfl)
end
end Ev
/-! Ev18: what a run comes to, said by what is wanted behind it. -/
namespace Ev
open PySem PySem.Spec PyProof.Rows L2
abbrev XP := Str → List Str → List D → Store → Prop
def noXP : XP := fun _ _ _ _ => False
def Out.wp {α : Type} (r : Out α) (Q : α → Store → Prop) (E : XP) : Prop := match r with
  | .ok a S => Q a S
  | .exc c ks ds S => E c ks ds S
  | .fail => False
def SOut.wp (r : SOut) (N : Env' → Store → Prop) (R : D → Store → Prop) (B C : Env' → Store → Prop) (X : XP) : Prop := match r with
  | .next ρ S => N ρ S
  | .ret d S => R d S
  | .brk ρ S => B ρ S
  | .cont ρ S => C ρ S
  | .exc c ks ds _ S => X c ks ds S
  | .fail => False
section
variable {α β : Type} {r : Out α} {f : α → Store → Out β} {a : α} {S : Store} {E : XP} {Q Q' : α → Store → Prop}
@[simp] theorem wp_ok : (Out.ok a S).wp Q E = Q a S := rfl
@[simp] theorem wp_exc {c : Str} {ks : List Str} {ds : List D} : (Out.exc c ks ds S : Out α).wp Q E = E c ks ds S := rfl
@[simp] theorem wp_fail : (Out.fail : Out α).wp Q E = False := rfl
@[simp] theorem wp_bind {Q : β → Store → Prop} : (r.bind f).wp Q E = r.wp (fun a S => (f a S).wp Q E) E := by cases r <;> rfl
@[simp] theorem wp_some : (Out.of (some a) S).wp Q E = Q a S := rfl
@[simp] theorem wp_noX : r.noX.wp Q E = r.wp Q noXP := by cases r <;> rfl
theorem Out.wp.imp (h : r.wp Q E) (q : ∀ a S, Q a S → Q' a S) {E' : XP} (e : ∀ c ks ds S, E c ks ds S → E' c ks ds S) : r.wp Q' E' := by
  cases r with
  | ok a S => exact q a S h
  | exc c ks ds S => exact e c ks ds S h
  | fail => exact h
theorem Out.wp.up (h : r.wp Q noXP) (q : ∀ a S, Q a S → Q' a S) : r.wp Q' E := h.imp q fun _ _ _ _ z => z.elim
theorem Out.wp.ex (h : r.wp Q noXP) : ∃ a S, r = .ok a S ∧ Q a S := by
  cases r with
  | ok a S => exact ⟨a, S, rfl, h⟩
  | exc c ks ds S => exact h.elim
  | fail => exact h.elim
theorem wp_eq {S1 : Store} (e : r = .ok a S1) (h : Q a S1) : r.wp Q E := by rw [e]; exact h
end
section
variable {α : Type} {r : Out α} {f : α → Store → SOut} {a b : MS} {ρ : Env'} {S : Store} {N : Env' → Store → Prop} {R : D → Store → Prop} {B C : Env' → Store → Prop} {X : XP} {d : D} {c : Str} {ks : List Str} {ds : List D}
@[simp] theorem sw_next : (SOut.next ρ S).wp N R B C X = N ρ S := rfl
@[simp] theorem sw_ret : (SOut.ret d S).wp N R B C X = R d S := rfl
@[simp] theorem sw_brk : (SOut.brk ρ S).wp N R B C X = B ρ S := rfl
@[simp] theorem sw_cont : (SOut.cont ρ S).wp N R B C X = C ρ S := rfl
@[simp] theorem sw_exc : (SOut.exc c ks ds ρ S).wp N R B C X = X c ks ds S := rfl
@[simp] theorem sw_fail : (SOut.fail).wp N R B C X = False := rfl
@[simp] theorem sw_s : (r.s ρ f).wp N R B C X = r.wp (fun a S => (f a S).wp N R B C X) X := by cases r <;> rfl
theorem sw_seq (h : ∀ N' : Env' → Store → Prop, (∀ ρ1 S1, (b ρ1 S1).wp N R B C X → N' ρ1 S1) → (a ρ S).wp N' R B C X) : (sSeq a b ρ S).wp N R B C X := by
  have := h (fun ρ1 S1 => (b ρ1 S1).wp N R B C X) (fun _ _ z => z)
  unfold sSeq
  cases q : a ρ S <;> rw [q] at this <;> exact this
theorem SOut.wp.imp {r : SOut} {N' R' B' C' X'} (h : r.wp N R B C X) (n : ∀ ρ S, N ρ S → N' ρ S) (t : ∀ d S, R d S → R' d S) (k : ∀ ρ S, B ρ S → B' ρ S) (l : ∀ ρ S, C ρ S → C' ρ S) (e : ∀ c ks ds S, X c ks ds S → X' c ks ds S) : r.wp N' R' B' C' X' := by
  cases r <;> first | exact n _ _ h | exact t _ _ h | exact k _ _ h | exact l _ _ h | exact e _ _ _ _ h | exact h

/-! ### functions -/
def closeR (S0 : Store) (Q : D → Store → Prop) : D → Store → Prop := fun d S2 => Q (closeD S0 d S2).1 (closeD S0 d S2).2
theorem run_wp {body : MS} {n : Nat} {ds : List D} {Q : D → Store → Prop} {E : XP} (h : (body ((boxL ds S).1.map some ++ List.replicate (n - ds.length) none) (boxL ds S).2).wp (fun _ S2 => Q .non (closeD S .non S2).2) (closeR S Q) (fun _ _ => False) (fun _ _ => False) (fun c ks es S2 => E c ks es (closeL S es S2))) :
    (runBody body n ds S).wp Q E := by
  unfold runBody
  cases q : body ((boxL ds S).1.map some ++ List.replicate (n - ds.length) none) (boxL ds S).2 <;> rw [q] at h <;> exact h
theorem closeR_eq {S0 S2 S3 : Store} {Q : D → Store → Prop} {d r : D} (c : closeD S0 d S2 = (r, S3)) (h : Q r S3) : closeR S0 Q d S2 := by
  unfold closeR; rw [c]; exact h
/-! ### loops -/
@[simp] theorem x_for {b : Bind} {mi : M (List D × Guard)} {body : MS} : sFor b mi body ρ S = (mi ρ S).s ρ fun p S1 => forD b body p.2 p.1 ρ S1 := (rfl)
theorem forD_nil {b : Bind} {body : MS} {g : Guard} (hg : gOk g S) (h : N ρ S) : (forD b body g [] ρ S).wp N R B C X := by
  unfold forD; rw [if_pos hg]; exact h
theorem forD_cons {b : Bind} {body : MS} {g : Guard} {items : List D} {ρ1 : Env'} (hg : gOk g S) (hb : b d ρ = some ρ1)
    (h : (body ρ1 S).wp (fun ρ2 S2 => (forD b body g items ρ2 S2).wp N R B C X) R N (fun ρ2 S2 => (forD b body g items ρ2 S2).wp N R B C X) X) : (forD b body g (d :: items) ρ S).wp N R B C X := by
  unfold forD
  rw [if_pos hg, hb]
  dsimp only
  cases q : body ρ1 S <;> rw [q] at h <;> exact h
theorem for_wp {b : Bind} {body : MS} {g : Guard} {items : List D} (I : Nat → Env' → Store → Prop) (h0 : I 0 ρ S) (hg : ∀ i ρ S, I i ρ S → gOk g S)
    (step : ∀ (i : Nat) (d : D) (ρ : Env') (S : Store), items[i]? = some d → I i ρ S → ∃ ρ1, b d ρ = some ρ1 ∧ (body ρ1 S).wp (I (i + 1)) R N (I (i + 1)) X)
    (done : ∀ ρ S, I items.length ρ S → N ρ S) : (forD b body g items ρ S).wp N R B C X := by
  have key : ∀ (rest : List D) (k : Nat) (ρ : Env') (S : Store), k + rest.length = items.length → items.drop k = rest → I k ρ S → (forD b body g rest ρ S).wp N R B C X := by
    intro rest
    induction rest with
    | nil =>
      intro k ρ S hk e h
      have : k = items.length := by simpa using hk
      subst this
      exact forD_nil (hg _ ρ S h) (done ρ S h)
    | cons d rest ih =>
      intro k ρ S hk e h
      have hi : items[k]? = some d := by
        have := List.getElem?_drop (xs := items) (i := k) (j := 0)
        rw [e] at this
        simpa using this.symm
      have hd2 : items.drop (k + 1) = rest := by rw [← List.drop_drop, e]; rfl
      have hk2 : k + 1 + rest.length = items.length := by rw [List.length_cons] at hk; omega
      obtain ⟨ρ1, e1, h1⟩ := step k d ρ S hi h
      exact forD_cons (hg k ρ S h) e1 (h1.imp (fun ρ2 S2 z => ih (k + 1) ρ2 S2 hk2 hd2 z) (fun _ _ z => z) (fun _ _ z => z) (fun ρ2 S2 z => ih (k + 1) ρ2 S2 hk2 hd2 z) fun _ _ _ _ z => z)
  exact key items 0 ρ S (by simp) (by simp) h0
@[simp] theorem x_comp {vs : List Nat} {b : Bind} {mi : M (List D × Guard)} {mt : M Bool} {me : M D} : mComp vs b mi mt me ρ S = (mi ρ S).bind fun p S1 =>
  if p.1.length ≤ sizeLine then (compL b mt me p.2 (wipeE ρ vs) p.1 S1).noX.bind fun es S2 => .ok (.lst es) S2 else .fail := (rfl)
theorem comp_wp {b : Bind} {mt : M Bool} {me : M D} {g : Guard} {ρ0 : Env'} {items : List D} {Q : List D → Store → Prop} {E : XP} (I : Nat → List D → Store → Prop) (h0 : I 0 [] S) (hg : ∀ i es S, I i es S → gOk g S)
    (step : ∀ (i : Nat) (d : D) (es : List D) (S : Store), items[i]? = some d → I i es S → ∃ ρ1, b d ρ0 = some ρ1 ∧ (mt ρ1 S).wp (fun k S1 => if k = true then (me ρ1 S1).wp (fun e S2 => I (i + 1) (es ++ [(box e S2).1]) (box e S2).2) E else I (i + 1) es S1) E)
    (done : ∀ es S, I items.length es S → Q es S) : (compL b mt me g ρ0 items S).wp Q E := by
  have key : ∀ (rest : List D) (k : Nat) (es : List D) (S : Store), k + rest.length = items.length → items.drop k = rest → I k es S → (compL b mt me g ρ0 rest S).wp (fun r S2 => Q (es ++ r) S2) E := by
    intro rest
    induction rest with
    | nil =>
      intro k es S hk e h
      have : k = items.length := by simpa using hk
      subst this
      unfold compL
      rw [if_pos (hg _ es S h), wp_ok, List.append_nil]
      exact done es S h
    | cons d rest ih =>
      intro k es S hk e h
      have hi : items[k]? = some d := by
        have := List.getElem?_drop (xs := items) (i := k) (j := 0)
        rw [e] at this
        simpa using this.symm
      have hd2 : items.drop (k + 1) = rest := by rw [← List.drop_drop, e]; rfl
      have hk2 : k + 1 + rest.length = items.length := by rw [List.length_cons] at hk; omega
      obtain ⟨ρ1, e1, h1⟩ := step k d es S hi h
      unfold compL
      rw [if_pos (hg k es S h), e1]
      dsimp only
      rw [wp_bind]
      refine h1.imp (fun q S1 z => ?_) fun _ _ _ _ z => z
      cases q with
      | false =>
        rw [if_neg (by simp)] at z ⊢
        exact ih (k + 1) es S1 hk2 hd2 z
      | true =>
        rw [if_pos rfl] at z ⊢
        rw [wp_bind]
        refine z.imp (fun e2 S2 z2 => ?_) fun _ _ _ _ z => z
        rw [wp_bind]
        have z3 := ih (k + 1) _ _ hk2 hd2 z2
        refine z3.imp (fun r S3 z4 => ?_) fun _ _ _ _ z => z
        rw [List.append_assoc] at z4
        exact z4
  have := key items 0 [] S (by simp) (by simp) h0
  exact this
end

/-! ### a state of three ints (or one), in a cell of the store -/
/-- only the k-th cell is another one, of three ints -/
def Dg (k : Nat) (S S' : Store) : Prop := S' = S ∨ ∃ a b c : Int, S' = S.set k (.lst [.int a, .int b, .int c])
section
variable {k : Nat} {S S' S2 T : Store} {d : D}
theorem Dg.refl : Dg k S S := .inl rfl
theorem Dg.len (h : Dg k S S') : S'.length = S.length := by
  rcases h with rfl | ⟨_, _, _, rfl⟩
  · rfl
  · rw [List.length_set]
theorem Dg.set {a b c : Int} : Dg k S (S.set k (.lst [.int a, .int b, .int c])) := .inr ⟨a, b, c, rfl⟩
theorem Dg.trans (h : Dg k S S') (h2 : Dg k S' S2) : Dg k S S2 := by
  rcases h2 with rfl | ⟨a, b, c, rfl⟩
  · exact h
  · rcases h with rfl | ⟨_, _, _, rfl⟩
    · exact .set
    · rw [List.set_set]; exact .set
theorem Dg.get {j : Nat} (h : Dg k S S') (hj : j ≠ k) : S'[j]? = S[j]? := by
  rcases h with rfl | ⟨_, _, _, rfl⟩
  · rfl
  · rw [List.getElem?_set, if_neg (fun e => hj e.symm)]
theorem Clean.more (h : Clean S S') (hl : S'.length = S.length) : Clean S (S' ++ T) := fun j hj => by
  rw [List.getElem?_append_left (by omega)]; exact h j hj
end
end Ev
/-! Ev19: == of plain data. -/
namespace Ev
open PySem PySem.Spec PyProof.Rows L2
mutual
/-- plain data, no deeper than n; nb: without truths -/
def D.pl (nb : Bool) : Nat → D → Bool
  | _, .non => true
  | _, .bl _ => !nb
  | _, .int _ => true
  | _, .str x => PyData.strOk x
  | 0, .tup _ => false
  | n + 1, .tup ds => plL nb n ds
  | _, .ptup _ => false
  | _, .ref _ => false
  | _, .fro _ => false
  | _, .lst _ => false
  | _, .obj _ _ _ => false
  | _, .dk _ _ => false
  | _, .dt _ _ => false
  | _, .exn _ _ _ _ => false
  | _, .fn _ _ => false
def plL (nb : Bool) : Nat → List D → Bool
  | _, [] => true
  | n, d :: ds => D.pl nb n d && plL nb n ds
end
mutual
def toP : D → PyData
  | .bl b => .bool b
  | .int i => .int i
  | .str x => .str x
  | .tup ds => .tuple (toPL ds)
  | _ => .none
def toPL : List D → List PyData
  | [] => []
  | d :: ds => toP d :: toPL ds
end
mutual
theorem py_pl {nb : Bool} {S : Store} : ∀ (d : D) (n k : Nat), n < k → d.pl nb n = true → py S k d = some (toP d)
  | .non, _, k + 1, _, _ => rfl
  | .bl _, _, k + 1, _, _ => rfl
  | .int _, _, k + 1, _, _ => rfl
  | .str _, _, k + 1, _, _ => rfl
  | .tup ds, n + 1, k + 1, hk, h => by
    unfold D.pl at h
    show (ds.mapM (py S k)).map PyData.tuple = _
    rw [py_plL ds n k (by omega) h]; rfl
  | .tup ds, 0, k + 1, _, h => by unfold D.pl at h; cases h
  | .ptup ds, n, k + 1, _, h => by unfold D.pl at h; cases h
  | .ref ds, n, k + 1, _, h => by unfold D.pl at h; cases h
  | .fro ds, n, k + 1, _, h => by unfold D.pl at h; cases h
  | .lst ds, n, k + 1, _, h => by unfold D.pl at h; cases h
  | .obj _ _ ds, n, k + 1, _, h => by unfold D.pl at h; cases h
  | .dk _ ds, n, k + 1, _, h => by unfold D.pl at h; cases h
  | .dt _ ds, n, k + 1, _, h => by unfold D.pl at h; cases h
  | .exn _ _ _ ds, n, k + 1, _, h => by unfold D.pl at h; cases h
  | .fn _ ds, n, k + 1, _, h => by unfold D.pl at h; cases h
theorem py_plL {nb : Bool} {S : Store} : ∀ (ds : List D) (n k : Nat), n < k → plL nb n ds = true → ds.mapM (py S k) = some (toPL ds)
  | [], _, _, _, _ => rfl
  | d :: ds, n, k, hk, h => by
    unfold plL at h
    rw [Bool.and_eq_true] at h
    rw [List.mapM_cons, py_pl d n k hk h.1, py_plL ds n k hk h.2]
    rfl
end
mutual
theorem shp_pl {nb : Bool} : ∀ (d : D) (n : Nat), d.pl nb n = true → (toP d).canLay0 = true ∧ (toP d).depth ≤ n
  | .non, _, _ => by unfold toP PyData.canLay0 PyData.depth; exact ⟨rfl, Nat.zero_le _⟩
  | .bl _, _, _ => by unfold toP PyData.canLay0 PyData.depth; exact ⟨rfl, Nat.zero_le _⟩
  | .int _, _, _ => by unfold toP PyData.canLay0 PyData.depth; exact ⟨rfl, Nat.zero_le _⟩
  | .str _, n, h => by unfold D.pl at h; unfold toP PyData.canLay0 PyData.depth; exact ⟨h, Nat.zero_le _⟩
  | .tup ds, n + 1, h => by
    unfold D.pl at h
    obtain ⟨h1, h2⟩ := shp_plL ds n h
    unfold toP PyData.canLay0 PyData.depth
    exact ⟨h1, by omega⟩
  | .tup ds, 0, h => by unfold D.pl at h; cases h
  | .ptup ds, n, h => by unfold D.pl at h; cases h
  | .ref ds, n, h => by unfold D.pl at h; cases h
  | .fro ds, n, h => by unfold D.pl at h; cases h
  | .lst ds, n, h => by unfold D.pl at h; cases h
  | .obj _ _ ds, n, h => by unfold D.pl at h; cases h
  | .dk _ ds, n, h => by unfold D.pl at h; cases h
  | .dt _ ds, n, h => by unfold D.pl at h; cases h
  | .exn _ _ _ ds, n, h => by unfold D.pl at h; cases h
  | .fn _ ds, n, h => by unfold D.pl at h; cases h
theorem shp_plL {nb : Bool} : ∀ (ds : List D) (n : Nat), plL nb n ds = true → PyData.canLayAll0 (toPL ds) = true ∧ PyData.depthAll (toPL ds) ≤ n
  | [], _, _ => by unfold toPL PyData.canLayAll0 PyData.depthAll; exact ⟨rfl, Nat.zero_le _⟩
  | d :: ds, n, h => by
    unfold plL at h
    rw [Bool.and_eq_true] at h
    obtain ⟨h1, h2⟩ := shp_pl d n h.1
    obtain ⟨h3, h4⟩ := shp_plL ds n h.2
    unfold toPL PyData.canLayAll0 PyData.depthAll
    exact ⟨by rw [h1, h3]; rfl, by omega⟩
end
theorem eqD_pl {nb nb' : Bool} {S : Store} {d e : D} {n : Nat} (hn : n ≤ 64) (h1 : d.pl nb n = true) (h2 : e.pl nb' n = true) : eqD S d e = some (PyData.eqv (toP d) (toP e)) := by
  obtain ⟨c1, c2⟩ := shp_pl d n h1
  obtain ⟨c3, c4⟩ := shp_pl e n h2
  unfold eqD
  rw [py_pl d n 66 (by omega) h1, py_pl e n 66 (by omega) h2]
  dsimp only
  have z : ∀ p : PyData, p.canLay0 = true → p.depth ≤ n → SeqAt.shaped p = true := fun p a b => by
    unfold SeqAt.shaped; rw [a, decide_eq_true (by omega : p.depth ≤ 64)]; rfl
  rw [if_pos ⟨z _ c1 c2, z _ c3 c4⟩]
mutual
theorem eqv_refl : ∀ d : D, PyData.eqv (toP d) (toP d) = true
  | .non => by unfold toP PyData.eqv; rfl
  | .bl b => by unfold toP PyData.eqv; simp
  | .int _ => by unfold toP PyData.eqv; simp
  | .str _ => by unfold toP PyData.eqv; simp
  | .tup ds => by unfold toP PyData.eqv; exact eqvL_refl ds
  | .ptup ds => by unfold toP PyData.eqv; rfl
  | .ref ds => by unfold toP PyData.eqv; rfl
  | .fro ds => by unfold toP PyData.eqv; rfl
  | .lst ds => by unfold toP PyData.eqv; rfl
  | .obj _ _ ds => by unfold toP PyData.eqv; rfl
  | .dk _ ds => by unfold toP PyData.eqv; rfl
  | .dt _ ds => by unfold toP PyData.eqv; rfl
  | .exn _ _ _ ds => by unfold toP PyData.eqv; rfl
  | .fn _ ds => by unfold toP PyData.eqv; rfl
theorem eqvL_refl : ∀ ds : List D, PyData.eqvAll (toPL ds) (toPL ds) = true
  | [] => by unfold toPL PyData.eqvAll; rfl
  | d :: ds => by unfold toPL PyData.eqvAll; rw [eqv_refl d, eqvL_refl ds]; rfl
end
/-- alike -/
theorem eqD_same {nb : Bool} {S : Store} {d : D} {n : Nat} (hn : n ≤ 64) (h : d.pl nb n = true) : eqD S d d = some true := by
  rw [eqD_pl hn h h, eqv_refl]
mutual
theorem eqv_inj : ∀ (d e : D) (n m : Nat), d.pl true n = true → e.pl true m = true → PyData.eqv (toP d) (toP e) = true → d = e
  | .non, e, n, m, h1, h2, h => by
    cases e <;> first | rfl | (unfold D.pl at h2; cases h2; done) | (unfold toP PyData.eqv at h; cases h; done)
  | .int i, e, n, m, h1, h2, h => by
    cases e <;> first | (unfold D.pl at h2; cases h2; done) | (unfold toP PyData.eqv at h; cases h; done) | (unfold toP PyData.eqv at h; simp at h; rw [h])
  | .str i, e, n, m, h1, h2, h => by
    cases e <;> first | (unfold toP PyData.eqv at h; cases h; done) | (unfold toP PyData.eqv at h; simp at h; rw [h]) | (unfold D.pl at h2; cases h2; done)
  | .tup ds, e, n, m, h1, h2, h => by
    cases e <;> first
      | (unfold toP PyData.eqv at h; cases h; done)
      | (rename_i es
         cases n with
         | zero => unfold D.pl at h1; cases h1
         | succ n =>
           cases m with
           | zero => unfold D.pl at h2; cases h2
           | succ m =>
             unfold D.pl at h1 h2
             unfold toP PyData.eqv at h
             rw [eqvL_inj ds es n m h1 h2 h])
      | (unfold D.pl at h2; cases h2; done)
  | .bl _, e, n, m, h1, _, _ => by unfold D.pl at h1; cases h1
  | .ptup _, e, n, m, h1, _, _ => by unfold D.pl at h1; cases h1
  | .ref _, e, n, m, h1, _, _ => by unfold D.pl at h1; cases h1
  | .fro _, e, n, m, h1, _, _ => by unfold D.pl at h1; cases h1
  | .lst _, e, n, m, h1, _, _ => by unfold D.pl at h1; cases h1
  | .obj _ _ _, e, n, m, h1, _, _ => by unfold D.pl at h1; cases h1
  | .dk _ _, e, n, m, h1, _, _ => by unfold D.pl at h1; cases h1
  | .dt _ _, e, n, m, h1, _, _ => by unfold D.pl at h1; cases h1
  | .exn _ _ _ _, e, n, m, h1, _, _ => by unfold D.pl at h1; cases h1
  | .fn _ _, e, n, m, h1, _, _ => by unfold D.pl at h1; cases h1
theorem eqvL_inj : ∀ (ds es : List D) (n m : Nat), plL true n ds = true → plL true m es = true → PyData.eqvAll (toPL ds) (toPL es) = true → ds = es
  | [], [], _, _, _, _, _ => rfl
  | [], _ :: _, _, _, _, _, h => by unfold toPL PyData.eqvAll at h; cases h
  | _ :: _, [], _, _, _, _, h => by unfold toPL PyData.eqvAll at h; cases h
  | d :: ds, e :: es, n, m, h1, h2, h => by
    unfold plL at h1 h2
    rw [Bool.and_eq_true] at h1 h2
    unfold toPL PyData.eqvAll at h
    rw [Bool.and_eq_true] at h
    rw [eqv_inj d e n m h1.1 h2.1 h.1, eqvL_inj ds es n m h1.2 h2.2 h.2]
end
/-- unlike, without truths -/
theorem eqD_ne {S : Store} {d e : D} {n : Nat} (hn : n ≤ 64) (h1 : d.pl true n = true) (h2 : e.pl true n = true) (h : d ≠ e) : eqD S d e = some false := by
  rw [eqD_pl hn h1 h2]
  cases q : PyData.eqv (toP d) (toP e) with
  | false => rfl
  | true => exact absurd (eqv_inj d e n n h1 h2 q) h
end Ev
/-! Ev20: sizes, places, small tools of the plain laws. -/
namespace Ev
open PySem PySem.Spec PyProof.Rows L2
theorem sz_le {n : Nat} (h : n ≤ 100000) : n ≤ sizeLine := Nat.le_trans h (by decide)
theorem sz_lt {n : Nat} (h : n < 100000) : n < sizeLine := Nat.lt_of_lt_of_le h (by decide)
@[simp] theorem szle_0 : (0 ≤ sizeLine) = True := eq_true (sz_le (by decide))
@[simp] theorem szlt_0 : (0 < sizeLine) = True := eq_true (sz_lt (by decide))
@[simp] theorem szle_1 : (1 ≤ sizeLine) = True := eq_true (sz_le (by decide))
@[simp] theorem szlt_1 : (1 < sizeLine) = True := eq_true (sz_lt (by decide))
@[simp] theorem szle_2 : (2 ≤ sizeLine) = True := eq_true (sz_le (by decide))
@[simp] theorem szlt_2 : (2 < sizeLine) = True := eq_true (sz_lt (by decide))
@[simp] theorem szle_3 : (3 ≤ sizeLine) = True := eq_true (sz_le (by decide))
@[simp] theorem szlt_3 : (3 < sizeLine) = True := eq_true (sz_lt (by decide))
@[simp] theorem szle_4 : (4 ≤ sizeLine) = True := eq_true (sz_le (by decide))
@[simp] theorem szlt_4 : (4 < sizeLine) = True := eq_true (sz_lt (by decide))
@[simp] theorem szle_5 : (5 ≤ sizeLine) = True := eq_true (sz_le (by decide))
@[simp] theorem szlt_5 : (5 < sizeLine) = True := eq_true (sz_lt (by decide))
@[simp] theorem szle_6 : (6 ≤ sizeLine) = True := eq_true (sz_le (by decide))
@[simp] theorem szlt_6 : (6 < sizeLine) = True := eq_true (sz_lt (by decide))
@[simp] theorem szle_7 : (7 ≤ sizeLine) = True := eq_true (sz_le (by decide))
@[simp] theorem szlt_7 : (7 < sizeLine) = True := eq_true (sz_lt (by decide))
@[simp] theorem szle_8 : (8 ≤ sizeLine) = True := eq_true (sz_le (by decide))
@[simp] theorem szlt_8 : (8 < sizeLine) = True := eq_true (sz_lt (by decide))
@[simp] theorem szle_9 : (9 ≤ sizeLine) = True := eq_true (sz_le (by decide))
@[simp] theorem szlt_9 : (9 < sizeLine) = True := eq_true (sz_lt (by decide))
@[simp] theorem szle_10 : (10 ≤ sizeLine) = True := eq_true (sz_le (by decide))
@[simp] theorem szlt_10 : (10 < sizeLine) = True := eq_true (sz_lt (by decide))
@[simp] theorem szle_11 : (11 ≤ sizeLine) = True := eq_true (sz_le (by decide))
@[simp] theorem szlt_11 : (11 < sizeLine) = True := eq_true (sz_lt (by decide))
@[simp] theorem szle_12 : (12 ≤ sizeLine) = True := eq_true (sz_le (by decide))
@[simp] theorem szlt_12 : (12 < sizeLine) = True := eq_true (sz_lt (by decide))
@[simp] theorem szle_13 : (13 ≤ sizeLine) = True := eq_true (sz_le (by decide))
@[simp] theorem szlt_13 : (13 < sizeLine) = True := eq_true (sz_lt (by decide))
@[simp] theorem szle_14 : (14 ≤ sizeLine) = True := eq_true (sz_le (by decide))
@[simp] theorem szlt_14 : (14 < sizeLine) = True := eq_true (sz_lt (by decide))
@[simp] theorem szle_15 : (15 ≤ sizeLine) = True := eq_true (sz_le (by decide))
@[simp] theorem szlt_15 : (15 < sizeLine) = True := eq_true (sz_lt (by decide))
@[simp] theorem szle_16 : (16 ≤ sizeLine) = True := eq_true (sz_le (by decide))
@[simp] theorem szlt_16 : (16 < sizeLine) = True := eq_true (sz_lt (by decide))
@[simp] theorem szle_17 : (17 ≤ sizeLine) = True := eq_true (sz_le (by decide))
@[simp] theorem szlt_17 : (17 < sizeLine) = True := eq_true (sz_lt (by decide))
@[simp] theorem szle_18 : (18 ≤ sizeLine) = True := eq_true (sz_le (by decide))
@[simp] theorem szlt_18 : (18 < sizeLine) = True := eq_true (sz_lt (by decide))
@[simp] theorem szle_19 : (19 ≤ sizeLine) = True := eq_true (sz_le (by decide))
@[simp] theorem szlt_19 : (19 < sizeLine) = True := eq_true (sz_lt (by decide))
@[simp] theorem szle_20 : (20 ≤ sizeLine) = True := eq_true (sz_le (by decide))
@[simp] theorem szlt_20 : (20 < sizeLine) = True := eq_true (sz_lt (by decide))
@[simp] theorem szle_21 : (21 ≤ sizeLine) = True := eq_true (sz_le (by decide))
@[simp] theorem szlt_21 : (21 < sizeLine) = True := eq_true (sz_lt (by decide))
@[simp] theorem szle_22 : (22 ≤ sizeLine) = True := eq_true (sz_le (by decide))
@[simp] theorem szlt_22 : (22 < sizeLine) = True := eq_true (sz_lt (by decide))
@[simp] theorem szle_23 : (23 ≤ sizeLine) = True := eq_true (sz_le (by decide))
@[simp] theorem szlt_23 : (23 < sizeLine) = True := eq_true (sz_lt (by decide))
@[simp] theorem szle_24 : (24 ≤ sizeLine) = True := eq_true (sz_le (by decide))
@[simp] theorem szlt_24 : (24 < sizeLine) = True := eq_true (sz_lt (by decide))
@[simp] theorem szle_25 : (25 ≤ sizeLine) = True := eq_true (sz_le (by decide))
@[simp] theorem szlt_25 : (25 < sizeLine) = True := eq_true (sz_lt (by decide))
@[simp] theorem szle_26 : (26 ≤ sizeLine) = True := eq_true (sz_le (by decide))
@[simp] theorem szlt_26 : (26 < sizeLine) = True := eq_true (sz_lt (by decide))
@[simp] theorem szle_27 : (27 ≤ sizeLine) = True := eq_true (sz_le (by decide))
@[simp] theorem szlt_27 : (27 < sizeLine) = True := eq_true (sz_lt (by decide))
@[simp] theorem szle_28 : (28 ≤ sizeLine) = True := eq_true (sz_le (by decide))
@[simp] theorem szlt_28 : (28 < sizeLine) = True := eq_true (sz_lt (by decide))
@[simp] theorem szle_29 : (29 ≤ sizeLine) = True := eq_true (sz_le (by decide))
@[simp] theorem szlt_29 : (29 < sizeLine) = True := eq_true (sz_lt (by decide))
@[simp] theorem szle_30 : (30 ≤ sizeLine) = True := eq_true (sz_le (by decide))
@[simp] theorem szlt_30 : (30 < sizeLine) = True := eq_true (sz_lt (by decide))
/-- the i-th -/
def ati (ns : List Int) (i : Int) : Int := ns[i.toNat]?.getD 0
theorem atI_nat {ds : List D} {i : Int} {d : D} (h0 : 0 ≤ i) (h : ds[i.toNat]? = some d) : atI ds i = some d := by
  obtain ⟨k, rfl⟩ := Int.eq_ofNat_of_zero_le h0
  obtain ⟨hk, e⟩ := List.getElem?_eq_some_iff.mp h
  have hk : k < ds.length := hk
  unfold atI ixN
  simp [hk, ← e]
theorem idxT_of {ds : List D} {i : Int} {d : D} {S : Store} (h0 : 0 ≤ i) (h : ds[i.toNat]? = some d) : idxD (.tup ds) (.int i) S = some d := atI_nat h0 h
@[simp] theorem idxT_0 {d : D} {ds : List D} {S : Store} : idxD (.tup (d :: ds)) (.int 0) S = some d := idxT_of (by decide) rfl
@[simp] theorem idxT_1 {d0 d : D} {ds : List D} {S : Store} : idxD (.tup (d0 :: d :: ds)) (.int 1) S = some d := idxT_of (by decide) rfl
@[simp] theorem idxT_2 {d0 d1 d : D} {ds : List D} {S : Store} : idxD (.tup (d0 :: d1 :: d :: ds)) (.int 2) S = some d := idxT_of (by decide) rfl
@[simp] theorem idxT_3 {d0 d1 d2 d : D} {ds : List D} {S : Store} : idxD (.tup (d0 :: d1 :: d2 :: d :: ds)) (.int 3) S = some d := idxT_of (by decide) rfl
@[simp] theorem idxT_4 {d0 d1 d2 d3 d : D} {ds : List D} {S : Store} : idxD (.tup (d0 :: d1 :: d2 :: d3 :: d :: ds)) (.int 4) S = some d := idxT_of (by decide) rfl
theorem cutT_1 {d : D} {ds : List D} {S : Store} : cutD (.tup (d :: ds)) (some 1) none S = some (.tup ds) := by
  show some (D.tup (cutL (d :: ds) (some ((1 : Nat) : Int)) none)) = _
  rw [cutL_from (by simp)]; rfl
theorem add_tup {xs ys : List D} {S : Store} (h : xs.length + ys.length ≤ sizeLine) : binD .Add (.tup xs) (.tup ys) S = some (.tup (xs ++ ys)) := by
  show (if xs.length + ys.length ≤ sizeLine then some (D.tup (xs ++ ys)) else none) = _
  exact if_pos h
@[simp] theorem lo_ptup {n : Nat} {ds : List D} : (D.ptup ds).lo n = loL n ds := by unfold D.lo; rfl
@[simp] theorem loL_nil {n : Nat} : loL n [] = true := by unfold loL; rfl
@[simp] theorem loL_cons {n : Nat} {d : D} {ds : List D} : loL n (d :: ds) = (d.lo n && loL n ds) := by conv => lhs; unfold loL
theorem eqD_str {nb : Bool} {S : Store} {x y : Str} (h1 : PyData.strOk x = true) (h2 : PyData.strOk y = true) : eqD S (.str x) (.str y) = some (decide (x = y)) := by
  by_cases h : x = y
  · subst h; rw [eqD_same (nb := true) (n := 0) (by decide) (by unfold D.pl; exact h1)]; simp
  · rw [eqD_ne (n := 0) (by decide) (by unfold D.pl; exact h1) (by unfold D.pl; exact h2) (by simpa using h)]; simp [h]
theorem closeR_app {S T : Store} {Q : D → Store → Prop} {d : D} (h : d.lo S.length = true) (q : Q d S) : closeR S Q d (S ++ T) := closeR_eq (closeD_app h) q
theorem closeR_same {S : Store} {Q : D → Store → Prop} {d : D} (q : Q d S) : closeR S Q d S := closeR_eq closeD_same q
@[simp] theorem lo_lst {n : Nat} {ds : List D} : (D.lst ds).lo n = loL n ds := by unfold D.lo; rfl
@[simp] theorem box_ptup {ds : List D} {S : Store} : box (.ptup ds) S = (.ptup ds, S) := rfl
theorem dv2 : ((0 : Int) < 2 ∧ (2 : Int).natAbs.log2 < 9000) = True := eq_true (by decide)
theorem md2 : ((0 : Int) < 2) = True := eq_true (by decide)
/-- what is only in the last cell -/
theorem Dg.tail {S U : Store} {c : Cell} (h : Dg S.length (S ++ [c]) U) : ∃ c', U = S ++ [c'] := by
  rcases h with rfl | ⟨x, y, z, rfl⟩
  · exact ⟨c, rfl⟩
  · exact ⟨_, setT0⟩
end Ev
/-! Ev21: renamings (lists that are iota n turned). -/
namespace Ev
open PySem PySem.Spec PyProof.Rows L2
/-- undone -/
def bk (n : Nat) (p : List Int) : List Int := (iota n).map fun z => (p.idxOf z : Nat)
end Ev
/-! Ev22: dicts of ints and texts, constants of the top, extend, len(set(..)), what is never reached. -/
namespace Ev
open PySem PySem.Spec PyProof.Rows L2
section
variable {X : Cx} {W : WX}
/-! ### never reached -/
/-! ### constants of the top -/
/-- a dict of the top with texts for keys: what stands at these keys (none: no such key) -/
structure CDic (K : PySem.W.Frag) (w : World) (a : Addr) (tb : List (Str × Option D)) : Prop where
  is : ∃ es n, KDict K w a es n
  has : ∀ k d, tb.lookup k = some (some d) → ∃ u v, PySem.W.nsIn K a k = some (some u) ∧ RelV v u ∧ d.cell? = none ∧ ∀ μ H, Rep K μ H d v
  no : ∀ k, tb.lookup k = some none → PySem.W.nsIn K a k = some none
def mUn (g : D → Option D) (m : M D) : M D := fun ρ S => (m ρ S).bind fun d S1 => Out.of (g d) S1
end

/-! ### dicts -/
def keyD : D → Option Key
  | .int i => some (.inl i)
  | .str x => some (.inr x)
  | _ => none
def lookK (k : Key) : List Key → List D → Option D
  | k' :: ks, d :: ds => if k' = k then some d else lookK k ks ds
  | _, _ => none
def dictK (S : Store) : D → Option (List Key × List D)
  | .dk ks ds => some (ks, ds)
  | .ref n => match S[n]? with
    | some (.dk ks ds) => some (ks, ds)
    | _ => none
  | _ => none
section
variable {K : PySem.W.Frag} {mg : Str → Option Value} {μ : List Addr} {H0 H : Hp} {S : Store} {d : D} {v : V} {ks : List Key} {ds : List D}
theorem lookK_ok {k : Key} : ∀ {ks : List Key} {ds : List D} {vs : List V}, ks.length = ds.length → RepL K μ H ds vs → match lookK k ks ds with
    | some d => ∃ v, valV (ks.zip vs) k = some v ∧ Rep K μ H d v
    | none => valV (ks.zip vs) k = none
  | [], [], vs, _, r => by rw [RepL.nil_iff] at r; subst r; rfl
  | k' :: ks, d :: ds, vs, hl, r => by
    obtain ⟨v, w, rfl, r1, r2⟩ := RepL.cons_iff.mp r
    unfold lookK
    rw [List.zip_cons_cons]
    by_cases h : k' = k
    · rw [if_pos h]
      exact ⟨v, valV_pos h, r1⟩
    · rw [if_neg h, valV_neg h]
      exact lookK_ok (by simpa using hl) r2
  | [], _ :: _, _, hl, _ => by simp at hl
  | _ :: _, [], _, hl, _ => by simp at hl
theorem dictK_ok (R : Rel K mg μ S H) (x : ResOk K mg μ H0 H d v) (h : dictK S d = some (ks, ds)) : ∃ a vs, v = .ref a ∧ H a = some (.dK (ks.zip vs)) ∧ ks.length = ds.length ∧ RepL K μ H ds vs := by
  cases d with
  | dk ks' ds' =>
    cases h
    unfold ResOk at x
    obtain ⟨a, rfl, ⟨C, dx, vs, _, h2, h3, h4⟩, _⟩ := x
    exact ⟨a, vs, rfl, h2, h3, h4⟩
  | ref n =>
    unfold dictK at h
    dsimp only at h
    split at h
    · rename_i hn
      cases h
      have x := x.rep rfl
      unfold Rep at x
      obtain ⟨a, ha, rfl⟩ := x
      obtain ⟨C, dx, vs, _, h2, h3, h4⟩ := R.cell n a _ ha hn
      exact ⟨a, vs, rfl, h2, h3, h4⟩
    · cases h
  | _ => cases h
theorem keyD_ok {k : Key} (x : ResOk K mg μ H0 H d v) (h : keyD d = some k) : v = kV k := by
  cases d with
  | int i => cases h; exact rep_int x
  | str i => cases h; exact rep_str x
  | _ => cases h
theorem Rep.pokeD {p : Addr} {xs ys : List (Key × V)} (R : Rel K mg μ S H) (h : H p = some (.dK xs)) (hp : p ∉ μ) {d : D} {v : V} (r : Rep K μ H d v) : Rep K μ (upd H p (.dK ys)) d v := by
  have hw : ∀ a ∈ μ ++ [p], Wr H a := fun a ha => by
    rcases List.mem_append.mp ha with z | z
    · exact R.wr a z
    · simp at z; subst z; exact .inr (.inr (.inl ⟨xs, h⟩))
  have k : Keep (μ ++ [p]) H (upd H p (.dK ys)) := .of fun a o e hn => by
    rw [upd_ne (fun z => hn (by rw [z]; simp))]; exact e
  have r1 : Rep K (μ ++ [p]) H d v := r.mono R.wr Keep.refl
  have r2 : Rep K (μ ++ [p] ++ []) (upd H p (.dK ys)) d v := r1.mono hw k
  rw [List.append_nil] at r2
  exact r2.cut r.lo
theorem RepL.pokeD {p : Addr} {xs ys : List (Key × V)} (R : Rel K mg μ S H) (h : H p = some (.dK xs)) (hp : p ∉ μ) {ds : List D} : ∀ {vs : List V}, RepL K μ H ds vs → RepL K μ (upd H p (.dK ys)) ds vs := by
  induction ds with
  | nil => intro vs r; rw [RepL.nil_iff] at r ⊢; exact r
  | cons d ds ih =>
    intro vs r
    obtain ⟨w, ws, rfl, r1, r2⟩ := RepL.cons_iff.mp r
    exact RepL.cons (r1.pokeD R h hp) (ih r2)
theorem Rel.pokeD {p : Addr} {xs ys : List (Key × V)} (R : Rel K mg μ S H) (h : H p = some (.dK xs)) (hp : p ∉ μ) : Rel K mg μ S (upd H p (.dK ys)) := by
  refine ⟨R.nd, R.len, fun n a c h1 h2 => ?_⟩
  have cc := R.cell n a c h1 h2
  have hm : a ∈ μ := List.mem_of_getElem? h1
  rcases c.pln_or with hc | ⟨P, nm, rfl⟩
  · obtain ⟨C, dx, vs, q1, q2, q3, q4⟩ := (cellOk_iff hc).mp cc
    exact (cellOk_iff hc).mpr ⟨C, dx, vs, q1, by rw [upd_ne (fun z => hp (by rw [← z]; exact hm))]; exact q2, q3, q4.pokeD R h hp⟩
  · obtain ⟨ea, t⟩ := cellOk_tab.mp cc
    refine cellOk_tab.mpr ⟨ea, tabN_keep t (upd_ne fun z => hp (by rw [← z]; exact hm)) fun c' q e => ?_⟩
    rw [upd_ne (fun z => ?_)]
    · exact e
    · subst z
      unfold LamX.CodeO at e
      rw [e] at h; cases h
end
def dgetD (d e : D) (S : Store) : Option D := match dictK S d, keyD e with
  | some (ks, ds), some k => lookK k ks ds
  | _, _ => none
def dinD (neg : Bool) (e d : D) (S : Store) : Option D := match dictK S d, keyD e with
  | some (ks, ds), some k => some (.bl (if neg then !(lookK k ks ds).isSome else (lookK k ks ds).isSome))
  | _, _ => none
section
variable {X : Cx} {W : WX}
theorem noSl_of {b : Expr} (h : notSlice b = true) : NoSl b := fun o i => by
  cases b <;> first | rfl | cases h
theorem ev_dget {a b : Expr} {ma mb : M D} {pos : Pos} (hu : X.A.units + 64 < cLine) (ha : EvE X W a ma) (hb : EvE X W b mb) (hs : notSlice b = true) : EvE X W (.Subscript a b pos) (mBin dgetD ma mb) := by
  refine EvE.of_pe (pe_dget (by omega) ha.pe hb.pe (noSl_of hs)) fun σ H μ S ρ R E F => ?_
  refine tm2 R E F fun d1 d2 S2 v1 v2 μ2 H2 r e st x1 x2 hr => ?_
  unfold dgetD at hr
  split at hr
  · rename_i ks ds k h1 h2
    obtain ⟨a, vs, rfl, hH, hl, rl⟩ := dictK_ok st.rel x1 h1
    have := lookK_ok (k := k) hl rl
    rw [hr] at this
    obtain ⟨v, hv, rv⟩ := this
    rw [keyD_ok x2 h2]
    exact ⟨a, v, rfl, by rw [← hv]; exact DGet.k hH, r, S2, μ2, e, st, ResOk.plain rv⟩
  · cases hr
end
end Ev
/-! Ev23: written dicts, update, extend, len(set(..)). -/
namespace Ev
open PySem PySem.Spec PyProof.Rows L2
theorem merge_nodup : ∀ (more kvs : List (Key × V)), (kvs.map (·.1) ++ more.map (·.1)).Nodup → mergeK kvs more = kvs ++ more
  | [], kvs, _ => by rw [List.append_nil]; rfl
  | kv :: more, kvs, h => by
    have e : (kvs.any fun x => decide (x.1 = kv.1)) = false := by
      rw [List.any_eq_false]
      intro x hx
      rw [List.map_cons, List.nodup_append] at h
      have := h.2.2 x.1 (List.mem_map_of_mem hx) kv.1 (by simp)
      simpa using this
    have e2 : putK kvs kv.1 kv.2 = kvs ++ [kv] := by
      unfold putK
      rw [if_neg (by rw [e]; simp)]
    show mergeK (putK kvs kv.1 kv.2) more = _
    rw [e2, merge_nodup more _ (by rw [List.map_append, List.append_assoc]; exact h), List.append_assoc]
    rfl
theorem zip_kV : ∀ (ks : List Key) (vs : List V), (ks.map kV).zip vs = (ks.zip vs).map fun kv => (kV kv.1, kv.2)
  | [], vs => by simp
  | k :: ks, [] => by simp
  | k :: ks, v :: vs => by rw [List.map_cons, List.zip_cons_cons, List.zip_cons_cons, List.map_cons, zip_kV ks vs]
section
variable {X : Cx} {W : WX}
structure EvDs (X : Cx) (W : WX) (keys : List (Option Expr)) (vals : List Expr) (ks : List Key) (ma : M (List D)) : Prop where
  len : keys.length = vals.length
  len2 : ks.length = keys.length
  all : keys.all (·.isSome) = true
  ex : ∀ pos : Pos, ∃ trs, PPs X pos keys vals trs ∧ ∀ (σ : L2.St) (H : Hp) (μ : List Addr) (S : Store) (ρ : Env') (Q : List (V × V) → Hp → Prop), Rel X.K X.mg μ S H → EnvOk X.K μ H ρ σ → Fine X.K X.mg W μ H σ (ma ρ S) →
    (∀ ds S1 vs μ1 H1, ma ρ S = .ok ds S1 → Step X.K X.mg μ H μ1 S1 H1 → RepL X.K μ1 H1 ds vs → vs.length = ks.length → Q ((ks.map kV).zip vs) H1) → tPairs trs σ H Q
def mDNil : M (List D) := fun _ S => .ok [] S
def mDCons (m : M D) (r : M (List D)) : M (List D) := fun ρ S => (m ρ S).bind fun d S1 => (r ρ (box d S1).2).bind fun ds S2 => .ok ((box d S1).1 :: ds) S2
theorem evd_nil : EvDs X W [] [] [] mDNil := ⟨rfl, rfl, rfl, fun pos => ⟨[], pps_nil, fun σ H μ S ρ Q R E F q => q [] S [] μ H rfl (Step.refl R) RepL.nil rfl⟩⟩
theorem evd_cons {x : Str} {j : Nat} {p : Pos} {v : Expr} {keys : List (Option Expr)} {vals : List Expr} {ks : List Key} {m : M D} {r : M (List D)} (hv : EvE X W v m) (hr : EvDs X W keys vals ks r) :
    EvDs X W (some (.Constant (.str x) j p) :: keys) (v :: vals) (.inr x :: ks) (mDCons m r) := by
  refine ⟨by simp [hr.len], by simp [hr.len2], by simp [hr.all], fun pos => ?_⟩
  obtain ⟨trs, hp, ht⟩ := hr.ex pos
  refine ⟨_, pps_cons pe_str hv.pe hp, fun σ H μ S ρ Q R E F q => ?_⟩
  unfold mDCons at F q
  show TM X W m σ H _
  refine ⟨μ, S, ρ, R, E, F.left, fun d S1 y μ1 H1 e st x => ?_⟩
  obtain ⟨μ1', st1, r1, ext, em⟩ := st.box x
  have F1 := Fine.right R st1 (r := Out.ok d (box d S1).2) (f := fun d' S2 => (r ρ S2).bind fun ds S3 => Out.ok ((box d S1).1 :: ds) S3) (a := d) (S1 := (box d S1).2) (by rw [e] at F; exact F) rfl
  refine ht σ H1 μ1' _ ρ _ st1.rel (E.step R st1) F1.left fun ds S2 vs μ2 H2 e2 st2 rl hl => ?_
  refine q ((box d S1).1 :: ds) S2 (y :: vs) μ2 H2 (by rw [e, bind_ok, e2]; rfl) (st1.trans R st2) (RepL.cons (st2.rep st1.rel r1) rl) (by simp [hl])
def mDict (ks : List Key) (ma : M (List D)) : M D := fun ρ S => (ma ρ S).bind fun ds S1 => .ok (.dk ks ds) S1
theorem ev_dict {keys : List (Option Expr)} {vals : List Expr} {ks : List Key} {ma : M (List D)} {pos : Pos} (h : EvDs X W keys vals ks ma) (h0 : keys ≠ []) (h15 : keys.length ≤ 15) (hn : ks.Nodup) : EvE X W (.Dict keys vals pos) (mDict ks ma) := by
  obtain ⟨trs, hp, ht⟩ := h.ex pos
  refine EvE.of_pe (pe_disp hp h.all h.len h0 h15) fun σ H μ S ρ R E F => ?_
  intro p hpn
  unfold mDict at F
  have stf := Step.fresh (o := .dK []) R hpn
  have Rf := stf.rel
  refine ht σ _ μ S ρ _ Rf (E.step R stf) (F.left.back R stf) fun ds S1 vs μ1 H2 e st rl hl => ?_
  have hpm := R.nin hpn
  obtain ⟨n1, n2⟩ := st.nin (o := .dK []) upd_same hpm
  have hlen : (ks.zip vs).length = ks.length := by rw [List.length_zip, hl, Nat.min_self]
  refine ⟨n2, ks.zip vs, zip_kV ks vs, by rw [hlen, h.len2]; exact h15, .dk ks ds, S1, μ1, by unfold mDict; rw [e]; rfl, ?_, ?_⟩
  · obtain ⟨ext, em, R1, kp, fr⟩ := id st
    refine ⟨ext, em, R1.pokeD n2 n1, fun a o ha hm => ?_, fun a ha => ?_⟩
    · have hap : a ≠ p := ne_of_none ha hpn
      rw [upd_ne hap]
      exact kp a o (by rw [upd_ne hap]; exact ha) hm
    · have := fr a ha
      have hap : a ≠ p := fun z => by rw [z, upd_same] at this; cases this
      rwa [upd_ne hap] at this
  · have em : mergeK [] (ks.zip vs) = ks.zip vs := by
      rw [merge_nodup _ _ ?_, List.nil_append]
      rw [List.map_nil, List.nil_append, List.map_fst_zip (by omega)]
      exact hn
    rw [em]
    exact ResOk.new (c := .dk ks ds) rfl ⟨0, 0, vs, trivial, upd_same, by show ks.length = ds.length; rw [rl.length, hl], rl.pokeD st.rel n2 n1⟩ n1 hpn

/-! ### extend -/
def mExt (mo me : M D) : M D := fun ρ S => (mo ρ S).bind fun o S1 => match o with
  | .ref n => if isLst S1 n = true then (me ρ S1).bind fun d S2 => match S2[n]?, seqW S2 d with
    | some (.lst xs), some ys => if xs.length + ys.length ≤ sizeLine then .ok .non (S2.set n (.lst (xs ++ ys))) else .fail
    | _, _ => .fail
    else .fail
  | _ => .fail
/-! ### len(set(list of ints)) -/
def difI (ns : List Int) : List Int := PyProof.Rows.firstMet (fun i => ns.getD i 0) ns.length
def mLenSet (m : M D) : M D := fun ρ S => (m ρ S).bind fun d S1 => match intsL S1 d with
  | some ns => if ns.length ≤ 4000 then .ok (.int (difI ns).length) S1 else .fail
  | none => .fail
end
end Ev
/-! Ev24: update of a dict by one with other keys. -/
namespace Ev
open PySem PySem.Spec PyProof.Rows L2
section
variable {X : Cx} {W : WX}
def mUpd (mo me : M D) : M D := fun ρ S => (mo ρ S).bind fun o S1 => match o with
  | .ref n => if (dictK S1 (.ref n)).isSome = true then (me ρ S1).bind fun d S2 => match S2[n]?, d with
    | some (.dk ks ds), .dk ms es => if (ks ++ ms).Nodup ∧ ks.length + ms.length ≤ sizeLine then .ok .non (S2.set n (.dk (ks ++ ms) (ds ++ es))) else .fail
    | _, _ => .fail
    else .fail
  | _ => .fail
end
end Ev
/-! Ev25: what printed terms lean on where there are classes. -/
namespace Ev
open PySem PySem.Spec PyProof.Rows L2
section
variable {P : Program} {w : World} {K : PySem.W.Frag} {mg : Str → Option Value} {base : Heap}
/-- classes whose instances have a field f that no class has -/
structure FAll (K : PySem.W.Frag) (mg : Str → Option Value) (f : Str) (l : List Str) : Prop where
  ok : ∀ c C, c ∈ l → mg c = some (.ref C) → Cls K C ∧ NoAttr K C f
theorem FAll.nil {f : Str} : FAll K mg f [] := ⟨fun _ _ h => nomatch h⟩
theorem FAll.cons {f c : Str} {C : Addr} {l : List Str} (h : mg c = some (.ref C)) (cl : Cls K C) (na : NoAttr K C f) (r : FAll K mg f l) : FAll K mg f (c :: l) := ⟨fun c' C' hc hm => by
  rcases List.mem_cons.mp hc with rfl | z
  · rw [h] at hm; cases hm; exact ⟨cl, na⟩
  · exact r.ok c' C' z hm⟩
/-- a method by the classes -/
structure MTb (P : Program) (w : World) (K : PySem.W.Frag) (mg : Str → Option Value) (base : Heap) (m : Str) (l : List (Str × Nat × Fn)) (k : Nat) : Prop where
  ok : ∀ c n f C, l.lookup c = some (n, f) → mg c = some (.ref C) → Cls K C ∧ ∃ (a : Addr) (fd : FuncData) (ps : List Str) (k' : Nat), k' ≤ k ∧ Meth K C m a ∧ Binds K fd ps [] ∧ FnG P w K mg base (L2N.CX P w) k' a fd ps (spOf K mg n f)
theorem MTb.nil {m : Str} {k : Nat} : MTb P w K mg base m [] k := ⟨fun _ _ _ _ h => nomatch h⟩
theorem MTb.cons {m c : Str} {n k k' : Nat} {f : Fn} {l : List (Str × Nat × Fn)} {C a : Addr} {fd : FuncData} {ps : List Str} (h : mg c = some (.ref C)) (cl : Cls K C) (me : Meth K C m a) (hb : Binds K fd ps []) (F : FnG P w K mg base (L2N.CX P w) k' a fd ps (spOf K mg n f)) (hk : k' ≤ k) (r : MTb P w K mg base m l k) :
    MTb P w K mg base m ((c, n, f) :: l) k := ⟨fun c' n' f' C' hl hm => by
  rw [List.lookup_cons] at hl
  by_cases e : c' = c
  · subst e
    rw [beq_self_eq_true] at hl
    cases hl
    rw [h] at hm; cases hm
    exact ⟨cl, a, fd, ps, k', hk, me, hb, F⟩
  · rw [beq_eq_false_iff_ne.mpr e] at hl
    exact r.ok c' n' f' C' hl hm⟩
/-- a class that is called -/
structure MkC (P : Program) (w : World) (K : PySem.W.Frag) (mg : Str → Option Value) (base : Heap) (x : Str) (n : Nat) (f : Fn) (k : Nat) : Prop where
  ex : ∃ (C a : Addr) (fd : FuncData) (ps : List Str), mg x = some (.ref C) ∧ Mk K C a ∧ Binds K fd ps [] ∧ FnG P w K mg base (L2N.CX P w) k a fd ps (spOf K mg n f)
theorem MkC.ok {X : Cx} {x : Str} {n : Nat} {f : Fn} {k : Nat} (c : MkC X.prog X.w X.K X.mg X.base x n f k) (hr : Rm (k + 1) X.A) : MakeOk X x n f :=
  let ⟨C, a, fd, ps, h1, h2, h3, h4⟩ := c.ex
  ⟨⟨C, a, fd, ps, k, h1, h2, h3, hr, h4⟩⟩
/-- a class of exceptions over ValueError without an __init__ of the program -/
def veB : List Value := [.type "ValueError", .type "Exception", .type "BaseException", .type "object"]
structure ExcT (K : PySem.W.Frag) (mg : Str → Option Value) (x : Str) : Prop where
  ex : ∃ C : Addr, mg x = some (.ref C) ∧ PySem.W.excIn K C veB "ValueError.__new__" = true ∧ PySem.W.keepIn K (.ref C) = true ∧ PySem.W.subIn K (.ref C) (.type "BaseException") = some true ∧ PySem.W.typeIn K (.ref C) = some (.type "type")
theorem ExcT.ok {X : Cx} {x : Str} (h : ExcT X.K X.mg x) : ExcOk X x :=
  let ⟨C, h1, h2, h3, h4, h5⟩ := h.ex
  ⟨⟨C, _, _, _, veB, PySem.F.excBase_ValueError, h2, h1, h3, raises_own h4 h5⟩⟩
/-- which exceptions a clause meets -/
structure ExmT (K : PySem.W.Frag) (mg : Str → Option Value) (c : Value) (l : List (Str × Bool)) : Prop where
  ok : ∀ c' b C', l.lookup c' = some b → mg c' = some (.ref C') → PySem.W.exmOne K (.ref C') c = some b
theorem ExmT.nil {c : Value} : ExmT K mg c [] := ⟨fun _ _ _ h => nomatch h⟩
theorem ExmT.cons {c : Value} {x : Str} {b : Bool} {C : Addr} {l : List (Str × Bool)} (h : mg x = some (.ref C)) (e : PySem.W.exmOne K (.ref C) c = some b) (r : ExmT K mg c l) : ExmT K mg c ((x, b) :: l) := ⟨fun c' b' C' hl hm => by
  rw [List.lookup_cons] at hl
  by_cases e' : c' = x
  · subst e'
    rw [beq_self_eq_true] at hl
    cases hl
    rw [h] at hm; cases hm
    exact e
  · rw [beq_eq_false_iff_ne.mpr e'] at hl
    exact r.ok c' b' C' hl hm⟩
def isxOf (l : List (Str × Bool)) : Str → Option Bool := fun c => l.lookup c
/-! ### dicts of the top -/
theorem CDic.nil {a : Addr} {es : Array DictEntry} {n : Nat} (h : KDict K w a es n) : CDic K w a [] := ⟨⟨es, n, h⟩, (fun _ _ h => nomatch h), (fun _ h => nomatch h)⟩
end
section
variable {X : Cx} {W : WX}
structure CDT (K : PySem.W.Frag) (w : World) (mg : Str → Option Value) (x : Str) (tb : List (Str × Option D)) : Prop where
  ex : ∃ a, mg x = some (.ref a) ∧ CDic K w a tb
/-- a clause's class -/
structure HdT (K : PySem.W.Frag) (mg : Str → Option Value) (x : Str) (l : List (Str × Bool)) : Prop where
  ex : ∃ C, mg x = some (.ref C) ∧ ExmT K mg (.ref C) l
/-- constants -/
structure CnT (mg : Str → Option Value) (x : Str) (d : D) : Prop where
  ex : ∃ u v, mg x = some u ∧ RelV v u ∧ d.cell? = none ∧ ∀ K μ H, Rep K μ H d v
theorem CnT.int {mg : Str → Option Value} {x : Str} {i : Int} {t : Tok} (h : mg x = some (.int i t)) : CnT mg x (.int i) := ⟨⟨_, .int i, h, ⟨t, rfl⟩, rfl, fun _ _ _ => by unfold Rep; rfl⟩⟩
theorem CnT.str {mg : Str → Option Value} {x i : Str} {t : Tok} (h : mg x = some (.str i t)) : CnT mg x (.str i) := ⟨⟨_, .str i, h, ⟨t, rfl⟩, rfl, fun _ _ _ => by unfold Rep; rfl⟩⟩
end
end Ev
/-! Ev26: a, b = e1, e2; plain forms of Ev22 .. Ev25. -/
namespace Ev
open PySem PySem.Spec PyProof.Rows L2
section
variable {X : Cx} {W : WX}
def sPar (i j : Nat) (m : M (List D)) : MS := fun ρ S => (m ρ S).s ρ fun ds S1 => match (boxL ds S1).1 with
  | [d, e] => .next ((ρ.set i (some d)).set j (some e)) (boxL ds S1).2
  | _ => .fail
theorem evt_pc {a b : Expr} {op : CmpOp} {pos : Pos} {t : TE} {m : M D} (h : PC X op a b t) (h1 : behindInMarks op b = false) (q : ∀ σ H μ S ρ, Rel X.K X.mg μ S H → EnvOk X.K μ H ρ σ → Fine X.K X.mg W μ H σ (m ρ S) →
    t σ H fun v H' => ∃ d S' μ', m ρ S = .ok d S' ∧ Step X.K X.mg μ H μ' S' H' ∧ ResOk X.K X.mg μ' H H' d v) : EvT X W (.Compare a [op] [b] pos) (mTru m) := by
  refine ⟨fun pins s σ H μ S ρ I R E F => ?_⟩
  refine wpAny_isTrue_Compare1 (thn (h.run pins s σ H _ I (q σ H μ S ρ R E F.left)) fun v s1 h1 => thn h1 fun u s2 h2 => thn h2 fun c s3 ⟨w, H', I', r, d, S', μ', e, st, x⟩ => ?_) h1
  have F1 : Fine X.K X.mg W μ' H' σ (Out.of (truD S' d) S') := Fine.right (f := fun d S1 => Out.of (truD S1 d) S1) R st F e
  obtain ⟨k, ek⟩ := fine_of F1
  refine thn (tru_ok pins s3 σ H' w c (fun b H2 => b = k ∧ H2 = H') I' r ⟨k, truD_ok st.rel x ek, rfl, rfl⟩) fun b s4 ⟨H2, I2, e1, e2⟩ => ?_
  subst e1; subst e2
  exact ⟨S', μ', H2, by unfold mTru; rw [e, bind_ok, ek]; rfl, I2, st⟩
theorem evt_dnotin {a b : Expr} {ma mb : M D} {pos : Pos} (hu : X.A.units + 64 < cLine) (ha : EvE X W a ma) (hb : EvE X W b mb) (h1 : behindInMarks .NotIn b = false) : EvT X W (.Compare a [.NotIn] [b] pos) (mTru (mBin (dinD true) ma mb)) := by
  refine evt_pc (pc_dnotin (by omega) ha.pe hb.pe) h1 fun σ H μ S ρ R E F => ?_
  refine tm2 R E F fun d1 d2 S2 v1 v2 μ2 H2 r e st x1 x2 hr => ?_
  unfold dinD at hr
  split at hr
  · rename_i ks ds k h1 h2
    cases hr
    obtain ⟨a, vs, rfl, hH, hl, rl⟩ := dictK_ok st.rel x2 h1
    have := lookK_ok (k := k) hl rl
    rw [keyD_ok x1 h2]
    refine ⟨a, valV (ks.zip vs) k, rfl, DGet.k hH, _, S2, μ2, e, st, ResOk.plain ?_⟩
    unfold Rep
    cases q : lookK k ks ds with
    | none => rw [q] at this; rw [this]; rfl
    | some d => rw [q] at this; obtain ⟨v, hv, _⟩ := this; rw [hv]; rfl
  · cases hr
end
section
variable {ρ : Env'} {S : Store} {a b : M D} {r : M (List D)} {g : D → Option D}
@[simp] theorem x_un : mUn g a ρ S = (a ρ S).bind fun d S1 => Out.of (g d) S1 := (rfl)
@[simp] theorem x_dict {ks : List Key} : mDict ks r ρ S = (r ρ S).bind fun ds S1 => .ok (.dk ks ds) S1 := (rfl)
@[simp] theorem x_dnil : mDNil ρ S = .ok [] S := (rfl)
@[simp] theorem x_dcons : mDCons a r ρ S = (a ρ S).bind fun d S1 => (r ρ (box d S1).2).bind fun ds S2 => .ok ((box d S1).1 :: ds) S2 := (rfl)
@[simp] theorem x_ext : mExt a b ρ S = (a ρ S).bind fun o S1 => match o with
  | .ref n => if isLst S1 n = true then (b ρ S1).bind fun d S2 => match S2[n]?, seqW S2 d with
    | some (.lst xs), some ys => if xs.length + ys.length ≤ sizeLine then .ok .non (S2.set n (.lst (xs ++ ys))) else .fail
    | _, _ => .fail
    else .fail
  | _ => .fail := (rfl)
@[simp] theorem x_lenSet : mLenSet a ρ S = (a ρ S).bind fun d S1 => match intsL S1 d with
  | some ns => if ns.length ≤ 4000 then .ok (.int (difI ns).length) S1 else .fail
  | none => .fail := (rfl)
@[simp] theorem x_upd : mUpd a b ρ S = (a ρ S).bind fun o S1 => match o with
  | .ref n => if (dictK S1 (.ref n)).isSome = true then (b ρ S1).bind fun d S2 => match S2[n]?, d with
    | some (.dk ks ds), .dk ms es => if (ks ++ ms).Nodup ∧ ks.length + ms.length ≤ sizeLine then .ok .non (S2.set n (.dk (ks ++ ms) (ds ++ es))) else .fail
    | _, _ => .fail
    else .fail
  | _ => .fail := (rfl)
@[simp] theorem x_make {x : Str} {n : Nat} {f : Fn} : mMake x n f r ρ S = (r ρ S).bind fun ds S1 => if ds.length + 1 = n then
    (f (.ref S1.length :: ds) (S1 ++ [.obj x [] []])).bind fun d S2 => match d with
      | .non => .ok (closeD S1 (.ref S1.length) S2).1 (closeD S1 (.ref S1.length) S2).2
      | _ => .fail
  else .fail := (rfl)
@[simp] theorem x_meth {t : MTab} {m : Str} : mMeth t m a r ρ S = (a ρ S).bind fun d S1 => match objOf S1 d with
  | some (c, ks, _) => if m ∈ ks then .fail else match t c with
    | some (n, f) => (r ρ S1).bind fun ds S2 => if ds.length + 1 = n then f (d :: ds) S2 else .fail
    | none => .fail
  | none => .fail := (rfl)
@[simp] theorem x_fld {t : Str → Bool} {f : Str} : mFld t f a ρ S = (a ρ S).bind fun d S1 => match objOf S1 d with
  | some (c, ks, ds) => if t c = true then Out.of (lookO f ks ds) S1 else .fail
  | none => .fail := (rfl)
@[simp] theorem x_sfld {t : Str → Bool} {f : Str} : sFldE t f a b ρ S = (a ρ S).s ρ fun d S1 => (b ρ (box d S1).2).s ρ fun o S2 => match o with
  | .ref n => match S2[n]? with
    | some (.obj c ks ds) => if t c = true ∧ ks.length < 1000 then .next ρ (S2.set n (.obj c (putO f (box d S1).1 ks ds).1 (putO f (box d S1).1 ks ds).2)) else .fail
    | _ => .fail
  | _ => .fail := (rfl)
@[simp] theorem x_par {i j : Nat} : sPar i j r ρ S = (r ρ S).s ρ fun ds S1 => match (boxL ds S1).1 with
  | [d, e] => .next ((ρ.set i (some d)).set j (some e)) (boxL ds S1).2
  | _ => .fail := (rfl)
@[simp] theorem x_raise {x : Str} : sRaise x ρ S = .exc x [] [] ρ S := (rfl)
@[simp] theorem box_dk {ks : List Key} {ds : List D} : box (.dk ks ds) S = (.ref S.length, S ++ [.dk ks ds]) := rfl
@[simp] theorem box_obj {c : Str} {ks : List Str} {ds : List D} : box (.obj c ks ds) S = (.ref S.length, S ++ [.obj c ks ds]) := rfl
end
end Ev
/-! Ev27: a state list of ints in a cell, whatever its length; what is handed back. -/
namespace Ev
open PySem PySem.Spec PyProof.Rows L2
/-- only the k-th cell is another one, a list of ints -/
def Di (k : Nat) (S S' : Store) : Prop := S' = S ∨ ∃ ns : List Int, S' = S.set k (.lst (ns.map .int))
section
variable {k : Nat} {S S' S2 T : Store} {d : D}
theorem Di.refl : Di k S S := .inl rfl
theorem Di.len (h : Di k S S') : S'.length = S.length := by
  rcases h with rfl | ⟨_, rfl⟩
  · rfl
  · rw [List.length_set]
theorem Di.set {ns : List Int} : Di k S (S.set k (.lst (ns.map .int))) := .inr ⟨ns, rfl⟩
theorem Di.trans (h : Di k S S') (h2 : Di k S' S2) : Di k S S2 := by
  rcases h2 with rfl | ⟨ns, rfl⟩
  · exact h
  · rcases h with rfl | ⟨_, rfl⟩
    · exact .set
    · rw [List.set_set]; exact .set
theorem Di.get {j : Nat} (h : Di k S S') (hj : j ≠ k) : S'[j]? = S[j]? := by
  rcases h with rfl | ⟨_, rfl⟩
  · rfl
  · rw [List.getElem?_set, if_neg (fun e => hj e.symm)]
theorem closeL_app {es : List D} (h : loL S.length es = true) : closeL S es (S ++ T) = S := by
  unfold closeL
  rw [if_pos ⟨Clean.app T, h⟩]
  simp
theorem closeL_same {es : List D} (h : loL S.length es = true) : closeL S es S = S := by
  have := closeL_app (S := S) (T := []) h
  rwa [List.append_nil] at this
end
@[simp] theorem dictK_ref {S : Store} {n : Nat} : dictK S (.ref n) = match S[n]? with
    | some (.dk ks ds) => some (ks, ds)
    | _ => none := rfl
@[simp] theorem dictK_dk {S : Store} {ks : List Key} {ds : List D} : dictK S (.dk ks ds) = some (ks, ds) := rfl
@[simp] theorem objOf_ref {S : Store} {n : Nat} : objOf S (.ref n) = match S[n]? with
    | some (.obj c ks ds) => some (c, ks, ds)
    | _ => none := rfl
@[simp] theorem objOf_obj {S : Store} {c : Str} {ks : List Str} {ds : List D} : objOf S (.obj c ks ds) = some (c, ks, ds) := rfl
@[simp] theorem dget_str {S : Store} {d : D} {x : Str} : dgetD d (.str x) S = match dictK S d with
    | some (ks, ds) => lookK (.inr x) ks ds
    | none => none := by
  unfold dgetD keyD
  cases dictK S d with
  | none => rfl
  | some p => rfl
theorem lookK_hit {k : Key} {ks : List Key} {d : D} {ds : List D} : lookK k (k :: ks) (d :: ds) = some d := if_pos rfl
theorem lookK_miss {k k' : Key} {ks : List Key} {d : D} {ds : List D} (h : decide (k' = k) = false) : lookK k (k' :: ks) (d :: ds) = lookK k ks ds := if_neg (of_decide_eq_false h)
theorem lookS_hit {α : Type} {k : Str} {v : α} {l : List (Str × α)} : ((k, v) :: l).lookup k = some v := by rw [List.lookup_cons, beq_self_eq_true]
theorem lookS_miss {α : Type} {k k' : Str} {v : α} {l : List (Str × α)} (h : (k == k') = false) : ((k', v) :: l).lookup k = l.lookup k := by rw [List.lookup_cons, h]
section
variable {isx : Str → Option Bool} {m : M D} {ms : MS} {N : Env' → Store → Prop} {R : D → Store → Prop} {B C : Env' → Store → Prop} {X : XP} {ρ : Env'} {S : Store}
end
/-- texts compared -/
def neS (x y : Str) : Bool := PyData.strOk x && PyData.strOk y && !decide (x = y)
theorem eqS_ne {S : Store} {x y : Str} (h : neS x y = true) : eqD S (.str x) (.str y) = some false := by
  unfold neS at h
  simp only [Bool.and_eq_true, Bool.not_eq_true', decide_eq_false_iff_not] at h
  rw [eqD_str (nb := true) h.1.1 h.1.2, decide_eq_false h.2]
theorem eqS_eq {S : Store} {x : Str} (h : PyData.strOk x = true) : eqD S (.str x) (.str x) = some true := eqD_same (nb := true) (n := 0) (by decide) (by unfold D.pl; exact h)
theorem small_log {a : Int} (h0 : 0 ≤ a) (h : a < 2 ^ 100) : a.natAbs.log2 < 200 := by
  by_cases e : a.natAbs = 0
  · rw [e]; decide
  · have : a.natAbs < 2 ^ 200 := Nat.lt_of_lt_of_le (by omega : a.natAbs < 2 ^ 100) (Nat.pow_le_pow_right (by omega) (by omega))
    exact (Nat.log2_lt e).mpr this
theorem mul_small {a b : Int} {S : Store} (h0 : 0 ≤ a) (h1 : a < 2 ^ 100) (h2 : 0 ≤ b) (h3 : b < 2 ^ 100) : binD .Mult (.int a) (.int b) S = some (.int (a * b)) :=
  bin_mul (by have := small_log h0 h1; have := small_log h2 h3; omega)
end Ev
/-! Ev28: plain tuples within data, tuple.count. -/
namespace Ev
open PySem PySem.Spec PyProof.Rows L2
mutual
def deepD : D → D
  | .ptup ds => .tup (deepL ds)
  | .tup ds => .tup (deepL ds)
  | d => d
def deepL : List D → List D
  | [] => []
  | d :: ds => deepD d :: deepL ds
end
section
variable {K : PySem.W.Frag} {μ : List Addr} {H : Hp}
mutual
theorem Rep.deep : ∀ {d : D} {v : V}, Rep K μ H d v → Rep K μ H (deepD d) v
  | .ptup ds, v, h => by
    unfold Rep at h
    unfold deepD Rep
    obtain ⟨a, vs, e, q, r⟩ := h
    exact ⟨a, vs, e, q.t, RepL.deep r⟩
  | .tup ds, v, h => by
    unfold Rep at h
    unfold deepD Rep
    obtain ⟨a, vs, e, q, r⟩ := h
    exact ⟨a, vs, e, q, RepL.deep r⟩
  | .non, _, h => h
  | .bl _, _, h => h
  | .int _, _, h => h
  | .str _, _, h => h
  | .ref _, _, h => h
  | .fro _, _, h => h
  | .lst _, _, h => h
  | .obj _ _ _, _, h => h
  | .dk _ _, _, h => h
  | .dt _ _, _, h => h
  | .exn _ _ _ _, _, h => h
  | .fn _ _, _, h => h
theorem RepL.deep : ∀ {ds : List D} {vs : List V}, RepL K μ H ds vs → RepL K μ H (deepL ds) vs
  | [], _, h => h
  | d :: ds, vs, h => by
    obtain ⟨v, r, e, h1, h2⟩ := RepL.cons_iff.mp h
    subst e
    unfold deepL
    exact RepL.cons (Rep.deep h1) (RepL.deep h2)
end
end
section
variable {X : Cx} {W : WX}
def mDeep (m : M D) : M D := fun ρ S => (m ρ S).bind fun d S1 => .ok (deepD d) S1
/-- t.count(k), ints, t plain -/
def pcntD (o e : D) : Option D := match o, e with
  | .ptup ds, .int k => match intsD ds with
    | some ns => some (.int (ns.count k : Nat))
    | none => none
  | _, _ => none
def mTCnt (mo me : M D) : M D := fun ρ S => (mo ρ S).bind fun o S1 => match o with
  | .ptup ds => (me ρ S1).bind fun e S2 => Out.of (pcntD (.ptup ds) e) S2
  | _ => .fail
end
section
variable {ρ : Env'} {S : Store} {a b : M D}
@[simp] theorem x_deep : mDeep a ρ S = (a ρ S).bind fun d S1 => .ok (deepD d) S1 := (rfl)
@[simp] theorem x_tcnt : mTCnt a b ρ S = (a ρ S).bind fun o S1 => match o with
  | .ptup ds => (b ρ S1).bind fun e S2 => Out.of (pcntD (.ptup ds) e) S2
  | _ => .fail := (rfl)
@[simp] theorem deep_tup {ds : List D} : deepD (.tup ds) = .tup (deepL ds) := by unfold deepD; rfl
@[simp] theorem deep_ptup {ds : List D} : deepD (.ptup ds) = .tup (deepL ds) := by unfold deepD; rfl
@[simp] theorem deep_int {i : Int} : deepD (.int i) = .int i := by unfold deepD; rfl
@[simp] theorem deepL_nil : deepL [] = [] := by unfold deepL; rfl
@[simp] theorem deepL_cons {d : D} {ds : List D} : deepL (d :: ds) = deepD d :: deepL ds := by conv => lhs; unfold deepL
theorem deepL_map (ds : List D) : deepL ds = ds.map deepD := by
  induction ds with
  | nil => exact deepL_nil
  | cons d ds ih => rw [deepL_cons, ih]; rfl
theorem deep_ints (ns : List Int) : deepL (ns.map .int) = ns.map .int := by
  rw [deepL_map, List.map_map]
  exact List.map_congr_left fun i _ => deep_int
end
end Ev
set_option maxHeartbeats 2000000
/-! Ev29: a law's end over a head by facts, for what the printer prints. -/
namespace Ev
open PySem PySem.Spec PyProof.Rows L2
section
variable {K : PySem.W.Frag} {w : World}
theorem fun_of {x qual : Str} {st : Stmt} {f : Addr} {fd : FuncData} {kws : List (Str × V)} (F : FunD K x qual (defArgs st) (defBody st) (defScope st) [] kws f fd) : Fun K x qual st f fd := by
  obtain ⟨oc, od, dV, kV, doc, pm, an, cdv, ct, osl, e, lk, hcd, hD, hK⟩ := F.ex
  rcases hD with ⟨_, rfl⟩ | ⟨z, _⟩
  · exact ⟨⟨oc, od, kV, doc, pm, an, cdv, ct, osl, e, lk, hcd⟩, F.kp⟩
  · exact absurd rfl z
end
end Ev
/-! Ev30: except C as n. -/
namespace Ev
open PySem PySem.Spec PyProof.Rows L2
section
variable {X : Cx} {W : WX}
/-- isinstance(e, c), e held by the suite, with a dict of its own or none -/
def rIsX (K : PySem.W.Frag) (D a : Addr) (d : Option Addr) : List V → Hp → VK → Prop := fun xs H Q => ∃ (c : V) (cv : Value) (b : Bool), xs = [.ref a, c] ∧ (∀ u, RelV c u → u = cv) ∧ PySem.W.kitOne K (.ref D) cv = some b ∧
  (∀ x, d = some x → ∃ fs, H x = some (.xd fs)) ∧ Q (.bl b) H
theorem call_isX {a D : Addr} {d : Option Addr} {oe : Obj} {pn : List (Addr × Obj)} (C : ExcC X.K D) (hz : Zc (.ref D) d oe) (hf : ∃ vs, oe.data = .fields vs) : CallR (X.suite a ((a, oe) :: pn)) (.builtin "isinstance") (rIsX X.K D a d) := by
  intro pins s σ H xs us Q I r h
  obtain ⟨c, cv, b, rfl, hcv, e, hx, q⟩ := h
  cases r with
  | cons rx rr =>
    cases rr with
    | cons rt rr =>
      cases rr
      cases rx
      have ec := hcv _ rt
      subst ec
      obtain ⟨hget, _⟩ := I.pin (a, oe) (List.mem_append.mpr (.inl List.mem_cons_self))
      obtain ⟨vs, hv⟩ := hf
      obtain ⟨cdD, hcD, _⟩ := PySem.W.any_some C.hd
      have nc : PySem.W.notCls oe = true := by unfold PySem.W.notCls; rw [hv] <;> rfl
      have J : ∃ od, PySem.W.InstAt s.heap a oe D od := by
        cases d with
        | none => exact ⟨none, hget, hz.1, nc, by rw [hz.2]; trivial⟩
        | some x =>
          obtain ⟨fs, hfs⟩ := hx x rfl
          have hx : ObjOk X.prog X.w H s.heap x (.xd fs) := I.hok x _ hfs
          obtain ⟨mA, hns, _⟩ := hx
          obtain ⟨od, ho, _⟩ := lookIn_ns hns
          exact ⟨some od, hget, hz.1, nc, by rw [hz.2]; exact ho⟩
      obtain ⟨od, J⟩ := J
      exact PySem.W.kia_one (PySem.W.kitx_exc (by rw [hcD] <;> rfl) C.hg C.hk C.hs C.ha C.hn C.ht C.hm) I.kIn J e (fun z => nomatch z) fun tk => ⟨.bl b, H, I.kept (t' := tk) fun _ _ z => z, rfl, q⟩
def xheldD (ρ : Env') (i : Nat) (a : Addr) (d : Option Addr) : Option (List Str × List D) := match ρ[i]? with
  | some (some (.exn a' d' ks ds)) => if a' = a ∧ d' = d then some (ks, ds) else none
  | _ => none
def mIsE (i : Nat) (a : Addr) (d : Option Addr) (o : Option Bool) : M D := fun ρ S => match xheldD ρ i a d with
  | some _ => Out.of (o.map D.bl) S
  | none => .fail
theorem xheld_ok {K : PySem.W.Frag} {μ : List Addr} {H : Hp} {ρ : Env'} {σ : L2.St} {i : Nat} {a : Addr} {d : Option Addr} {ks : List Str} {ds : List D} (E : EnvOk K μ H ρ σ) (h : xheldD ρ i a d = some (ks, ds)) :
    σ[i]? = some (some (.ref a)) ∧ ∀ x, d = some x → ∃ vs, H x = some (.xd (ks.zip vs)) ∧ ks.length = ds.length ∧ RepL K μ H ds vs := by
  unfold xheldD at h
  split at h
  · rename_i a' d' ks' ds' e
    split at h
    · rename_i q
      obtain ⟨rfl, rfl⟩ := q
      cases h
      obtain ⟨v, e1, r⟩ := E.at_ i _ e
      unfold Rep at r
      obtain ⟨rfl, _, r⟩ := r
      exact ⟨e1, r⟩
    · cases h
  · cases h
/-- the class c, asked of what exceptions there are -/
structure IsT (K : PySem.W.Frag) (mg : Str → Option Value) (x : Str) (l : List (Str × Bool)) : Prop where
  ex : ∃ (c : V) (cv : Value), RelV c cv ∧ (∀ u, RelV c u → u = cv) ∧ (mg x = some cv ∨ (mg x = none ∧ bootBuiltins x = some cv ∧ x ≠ "__name__")) ∧
    ∀ c' b C', l.lookup c' = some b → mg c' = some (.ref C') → ExcC K C' ∧ PySem.W.kitOne K (.ref C') cv = some b
theorem ev_isE {i : Nat} {a D : Addr} {d : Option Addr} {oe : Obj} {pn : List (Addr × Obj)} {n x c' : Str} {l : List (Str × Bool)} {p p1 p2 pos : Pos} (hc' : X.mg c' = some (.ref D)) (hz : Zc (.ref D) d oe) (hf : ∃ vs, oe.data = .fields vs)
    (hN : X.N[i]? = some n) (hv : Vis X.env.scope n) (hd : (n == ("__debug__" : Str)) = false) (hcd : (n == ("__classdict__" : Str)) = false) (hg : Gl X "isinstance") (hm : X.mg "isinstance" = none) (hg2 : Gl X x) (hT : IsT X.K X.mg x l) (hdx : (x == ("__debug__" : Str)) = false) :
    EvE (X.suite a ((a, oe) :: pn)) W (.Call (.Name "isinstance" p) [.Name n p1, .Name x p2] [] pos) (mIsE i a d (l.lookup c')) := by
  obtain ⟨c, cv, rc, hcv, hx, hl⟩ := hT.ex
  have hX : PE (X.suite a ((a, oe) :: pn)) (.Name x p2) (tC c) := by
    rcases hx with hx | ⟨h1, h2, h3⟩
    · exact pe_glob (X := X.suite a ((a, oe) :: pn)) hg2 hx rc hdx
    · exact pe_bltn (X := X.suite a ((a, oe) :: pn)) hg2 h1 h2 rc h3 hdx
  cases q : l.lookup c' with
  | none =>
    refine ⟨fun pins s σ H μ S ρ I R E F => ?_⟩
    unfold mIsE at F
    split at F <;> exact F.elim
  | some b =>
    obtain ⟨T, hk⟩ := hl c' b D q hc'
    refine EvE.of_pe (pe_callB (X := X.suite a ((a, oe) :: pn)) (call_isX T hz hf) hg hm (by decide +kernel) (pa_cons (pe_var (X := X.suite a ((a, oe) :: pn)) (i := i) hN hv hd hcd) (pa_cons hX pa_nil rfl) rfl) (by decide) (by decide) rfl rfl) fun σ H μ S ρ R E F => ?_
    unfold mIsE at F ⊢
    split at F
    · rename_i kd hh
      obtain ⟨e1, e2⟩ := xheld_ok (ks := kd.1) (ds := kd.2) E hh
      refine ⟨.ref a, e1, c, cv, b, rfl, hcv, hk, fun x hx => ?_, .bl b, S, μ, rfl, Step.refl R, res_bl⟩
      obtain ⟨vs, h1, _⟩ := e2 x hx
      exact ⟨_, h1⟩
    · exact F.elim
/-- e.f -/
structure XfT (K : PySem.W.Frag) (mg : Str → Option Value) (f : Str) (l : List Str) : Prop where
  ok : ∀ c' C', c' ∈ l → mg c' = some (.ref C') → XfC K C' ∧ PySem.W.findIn K (.ref C') f = some none
/-- behind the suite the name is gone -/
def unb (i : Nat) : SOut → SOut
  | .next ρ S => .next (ρ.set i none) S
  | .brk ρ S => .brk (ρ.set i none) S
  | .cont ρ S => .cont (ρ.set i none) S
  | .ret d S => .ret d S
  | _ => .fail
def asE (i : Nat) (E : Ends) : Ends := { nx := fun σ' H' => E.nx (σ'.set i none) H', rt := E.rt, bk := fun σ' H' => E.bk (σ'.set i none) H', ct := fun σ' H' => E.ct (σ'.set i none) H' }
theorem EnvOk.unset2 {K : PySem.W.Frag} {μ : List Addr} {H : Hp} {ρ : Env'} {σ : L2.St} (i : Nat) (h : EnvOk K μ H ρ σ) : EnvOk K μ H (ρ.set i none) (σ.set i none) := by
  refine ⟨by simp [h.len], fun j e q => ?_⟩
  rw [List.getElem?_set] at q ⊢
  split at q
  · split at q <;> cases q
  · rename_i hi
    rw [if_neg hi]
    exact h.at_ j e q
theorem unb_good {W : WX} {K : PySem.W.Frag} {mg : Str → Option Value} {W' : WX} {E : Ends} {μ : List Addr} {H : Hp} {i : Nat} {r : SOut} (h : GoodS K mg W E μ H (unb i r)) : GoodS K mg W' (asE i E) μ H r := by
  cases r with
  | next ρ S => exact fun σ' μ' H' st e => h _ μ' H' st (EnvOk.unset2 i e)
  | brk ρ S => exact fun σ' μ' H' st e => h _ μ' H' st (EnvOk.unset2 i e)
  | cont ρ S => exact fun σ' μ' H' st e => h _ μ' H' st (EnvOk.unset2 i e)
  | ret d S => exact h
  | exc c ks ds ρ S => exact h.elim
  | fail => exact h.elim
abbrev MX := Addr → Option Addr → Str → MS
open Classical in
noncomputable def asOut (i : Nat) (ms : MX) (c : Str) (ks : List Str) (ds : List D) : MS := fun ρ S =>
  if h : ∃ r, ∀ a dx, (dx = none → ds = []) → unb i (ms a dx c (ρ.set i (some (.exn a dx ks ds))) S) = r then h.choose else .fail
noncomputable def sTryAs (isx : Str → Option Bool) (i : Nat) (mb : MS) (ms : MX) : MS := fun ρ S => match mb ρ S with
  | .exc c ks ds ρ1 S1 => match isx c with
    | some true => asOut i ms c ks ds ρ1 S1
    | some false => .exc c ks ds ρ1 S1
    | none => .fail
  | r => r
theorem asOutF_eq {i : Nat} {ms : MX} {c : Str} {ks : List Str} {ds : List D} {ρ : Env'} {S : Store} {r : SOut} (h : ∀ a dx, (dx = none → ds = []) → unb i (ms a dx c (ρ.set i (some (.exn a dx ks ds))) S) = r) : asOut i ms c ks ds ρ S = r := by
  unfold asOut
  have hx : ∃ r, ∀ a dx, (dx = none → ds = []) → unb i (ms a dx c (ρ.set i (some (.exn a dx ks ds))) S) = r := ⟨r, h⟩
  rw [dif_pos hx]
  have := hx.choose_spec default (some default) (fun e => nomatch e)
  rw [← this]
  exact h _ _ (fun e => nomatch e)
theorem asOut_eq {i : Nat} {ms : MX} {c : Str} {ks : List Str} {ds : List D} {ρ : Env'} {S : Store} {r : SOut} (h : ∀ a dx, unb i (ms a dx c (ρ.set i (some (.exn a dx ks ds))) S) = r) : asOut i ms c ks ds ρ S = r := asOutF_eq fun a dx _ => h a dx
theorem evs_tryAs {x n : Str} {c : Value} {i : Nat} {body suite : List Stmt} {b0 : Stmt} {np pos pos' : Pos} {isx : Str → Option Bool} {mb : MS} {ms : MX} (hs : X.stack = X.env :: X.outer) (hf : X.env.frame = some X.env.locals) (hN : X.N.Nodup) (hi0 : X.N[i]? = some n) (hln : X.env.kindOf n = some .local) (hc : Names X x c) (tk : L2N.Takes X W)
    (hi : ∀ c' b C', isx c' = some b → X.mg c' = some (.ref C') → PySem.W.exmOne X.K (.ref C') c = some b)
    (hb : ∀ (W : WX) (pn : List (Addr × Obj)) (xe : Value → Shared → Prop), L2N.Takes (X.tr pn xe) W → PassesOwn (model X.prog X.w) X.A X.env xe → EvSs (X.tr pn xe) W body mb)
    (hsu : ∀ (a : Addr) (oe : Obj) (d : Option Addr) (pn : List (Addr × Obj)) (c' : Str) (D : Addr), X.mg c' = some (.ref D) → Zc (.ref D) d oe → (∃ vs, oe.data = .fields vs) → L2H.HotC (X.suite a ((a, oe) :: pn)) → EvSs (X.suite a ((a, oe) :: pn)) W (b0 :: suite) (ms a d c')) :
    EvS X W (.Try body [.ExceptHandler (some (.Name x np)) (some n) (b0 :: suite) pos'] [] [] pos) (sTryAs isx i mb ms) := by
  refine PS.imp (L2N.ps_try_as (i := i) hs hf hN hi0 hln hc tk (tb := fun W => TMs X W mb) (ts := fun a cls d D σ H => ∃ c' C', X.mg c' = some (.ref C') ∧ cls = .ref C' ∧ TMs X W (ms a d c') D σ H) (fun W pn xe t p => hb W pn xe t p) (fun a oe cls d pn hz hfl => ?_)) fun E σ H ⟨μ, S, ρ, R, En, G⟩ => ?_
  · refine ⟨fun pins s σ H D I ⟨c', C', h1, h2, h3⟩ => ?_⟩
    subst h2
    obtain ⟨vs, hv⟩ := hfl
    exact (hsu a oe d pn c' C' h1 hz.zc ⟨vs, hv⟩ ⟨(a, oe), ⟨rfl, vs, hv, hz.2.2 vs hv⟩, List.mem_cons_self⟩).run pins s σ H D I h3
  refine ⟨μ, S, ρ, R, En, ?_⟩
  unfold sTryAs at G
  cases hm : mb ρ S with
  | exc c' ks ds ρ1 S1 =>
    rw [hm] at G
    intro cls dx σ' μ' H' st En' xr
    obtain ⟨C', g1, e1, h2⟩ := id xr
    subst e1
    dsimp only at G
    cases hq : isx c' with
    | none => rw [hq] at G; exact G.elim
    | some b =>
      rw [hq] at G
      refine ⟨b, hi c' b C' hq g1, fun eb a ha => ?_, fun eb => ?_⟩
      · subst eb
        dsimp only at G
        unfold asOut at G
        split at G
        · rename_i hh
          have hsp := hh.choose_spec a dx (fun e => by subst e; exact h2.2)
          refine ⟨c', C', g1, rfl, μ', S1, ρ1.set i (some (.exn a dx ks ds)), st.rel, En'.set i ?_, unb_good (W := W) (i := i) (E := E) ?_⟩
          · unfold Rep
            refine ⟨rfl, fun e => ?_, fun x hx => ?_⟩
            · subst e; exact h2.2
            · subst hx
              exact h2
          · rw [hsp]
            exact GoodS.back R st G
        · exact G.elim
      · subst eb
        exact G (.ref C') dx σ' μ' H' st En' xr
  | next _ _ => rw [hm] at G; exact G
  | brk _ _ => rw [hm] at G; exact G
  | cont _ _ => rw [hm] at G; exact G
  | ret _ _ => rw [hm] at G; exact G
  | fail => rw [hm] at G; exact G.elim
theorem evs_tryAsT {x n : Str} {i : Nat} {l : List (Str × Bool)} {body suite : List Stmt} {b0 : Stmt} {np pos pos' : Pos} {mb : MS} {ms : MX} (hs : X.stack = X.env :: X.outer) (hf : X.env.frame = some X.env.locals) (hN : X.N.Nodup) (hi0 : X.N[i]? = some n) (hln : X.env.kindOf n = some .local) (hg : Gl X x) (hd : (x == ("__debug__" : Str)) = false) (h : HdT X.K X.mg x l) (tk : L2N.Takes X W)
    (hb : ∀ (W : WX) (pn : List (Addr × Obj)) (xe : Value → Shared → Prop), L2N.Takes (X.tr pn xe) W → PassesOwn (model X.prog X.w) X.A X.env xe → EvSs (X.tr pn xe) W body mb)
    (hsu : ∀ (a : Addr) (oe : Obj) (d : Option Addr) (pn : List (Addr × Obj)) (c' : Str) (D : Addr), X.mg c' = some (.ref D) → Zc (.ref D) d oe → (∃ vs, oe.data = .fields vs) → L2H.HotC (X.suite a ((a, oe) :: pn)) → EvSs (X.suite a ((a, oe) :: pn)) W (b0 :: suite) (ms a d c')) :
    EvS X W (.Try body [.ExceptHandler (some (.Name x np)) (some n) (b0 :: suite) pos'] [] [] pos) (sTryAs (isxOf l) i mb ms) := by
  obtain ⟨C, hm, hx⟩ := h.ex
  exact evs_tryAs hs hf hN hi0 hln ⟨hg, hd, .inl hm⟩ tk (fun c' b C' e g => hx.ok c' b C' e g) hb hsu
/-! ### plain tools -/
variable {ρ : Env'} {S : Store}
theorem tryAs_wp {isx : Str → Option Bool} {i : Nat} {mb : MS} {ms : MX} {N : Env' → Store → Prop} {R : D → Store → Prop} {B C : Env' → Store → Prop} {E : XP} (h : ∀ r, r = mb ρ S → match r with
    | .next ρ1 S1 => N ρ1 S1
    | .ret d S1 => R d S1
    | .brk ρ1 S1 => B ρ1 S1
    | .cont ρ1 S1 => C ρ1 S1
    | .exc c ks ds ρ1 S1 => match isx c with
      | some true => (asOut i ms c ks ds ρ1 S1).wp N R B C E
      | some false => E c ks ds S1
      | none => False
    | .fail => False) : (sTryAs isx i mb ms ρ S).wp N R B C E := by
  have := h _ rfl
  unfold sTryAs
  cases q : mb ρ S with
  | exc c ks ds ρ1 S1 =>
    rw [q] at this
    dsimp only at this ⊢
    cases z : isx c with
    | none => rw [z] at this; exact this.elim
    | some b => rw [z] at this; cases b <;> exact this
  | _ => rw [q] at this; exact this
/-- a try around one expression, as n -/
def XTa (isx : Str → Option Bool) (ms : Str → List Str → List D → Store → SOut) (N : Env' → Store → Prop) (R : D → Store → Prop) (B C : Env' → Store → Prop) (X : XP) : XP := fun c ks ds S1 => match isx c with
  | some true => (ms c ks ds S1).wp N R B C X
  | some false => X c ks ds S1
  | none => False
theorem tryAs_expr {isx : Str → Option Bool} {i : Nat} {m : M D} {ms : MX} {N : Env' → Store → Prop} {R : D → Store → Prop} {B C : Env' → Store → Prop} {X : XP} (h : (m ρ S).wp (fun _ S1 => N ρ S1) (XTa isx (fun c ks ds => asOut i ms c ks ds ρ) N R B C X)) : (sTryAs isx i (sExpr m) ms ρ S).wp N R B C X := by
  refine tryAs_wp fun r hr => ?_
  subst hr
  rw [x_expr]
  cases q : m ρ S with
  | ok d S1 => rw [q] at h; exact h
  | exc c ks ds S1 => rw [q] at h; exact h
  | fail => rw [q] at h; exact h
theorem xheld_at {i : Nat} {a : Addr} {d : Option Addr} {ks : List Str} {ds : List D} (h : ρ[i]? = some (some (.exn a d ks ds))) : xheldD ρ i a d = some (ks, ds) := by
  unfold xheldD; rw [h]; exact if_pos ⟨rfl, rfl⟩
end
end Ev
namespace Ev
open PySem PySem.Spec PyProof.Rows L2
section
variable {K : PySem.W.Frag} {mg : Str → Option Value}
theorem xcB_ok {x : Str} (h : xcB K x = true) : ExcC K (He.ga K x) := by
  unfold xcB at h
  obtain ⟨h1, h⟩ := He.ba h
  obtain ⟨h2, h⟩ := He.ba h
  obtain ⟨h3, h⟩ := He.ba h
  obtain ⟨h4, h⟩ := He.ba h
  obtain ⟨h5, h⟩ := He.ba h
  obtain ⟨h6, h⟩ := He.ba h
  obtain ⟨h7, h8⟩ := He.ba h
  exact ⟨He.eqO_ok h1, He.eqO_ok h2, of_decide_eq_true h3, h4, He.eqO_ok h5, He.eqO_ok h6, of_decide_eq_true h7, of_decide_eq_true h8⟩
abbrev IsL (K : PySem.W.Frag) (mg : Str → Option Value) (cv : Value) (l : List (Str × Bool)) : Prop := ∀ c' b C', l.lookup c' = some b → mg c' = some (.ref C') → ExcC K C' ∧ PySem.W.kitOne K (.ref C') cv = some b
theorem isT_nil {cv : Value} : IsL K mg cv [] := fun _ _ _ h => nomatch h
theorem isT_cons {cv : Value} {x : Str} {b : Bool} {C : Addr} {l : List (Str × Bool)} (h : mg x = some (.ref C)) (T : ExcC K C) (e : PySem.W.kitOne K (.ref C) cv = some b) (r : IsL K mg cv l) : IsL K mg cv ((x, b) :: l) := fun c' b' C' hl hm => by
  rw [List.lookup_cons] at hl
  by_cases e' : c' = x
  · subst e'
    rw [beq_self_eq_true] at hl
    cases hl
    rw [h] at hm; cases hm
    exact ⟨T, e⟩
  · rw [beq_eq_false_iff_ne.mpr e'] at hl
    exact r c' b' C' hl hm
end
section
variable {ρ : Env'} {S : Store}
theorem asOut_wp {i : Nat} {ms : MX} {c : Str} {ks : List Str} {ds : List D} {r : SOut} {N : Env' → Store → Prop} {R : D → Store → Prop} {B C : Env' → Store → Prop} {X : XP} (h : ∀ a dx, unb i (ms a dx c (ρ.set i (some (.exn a dx ks ds))) S) = r) (q : r.wp N R B C X) : (asOut i ms c ks ds ρ S).wp N R B C X := by
  rw [asOut_eq h]; exact q
end
end Ev
/-! Ev31: sorted(set(a list of ints)). -/
namespace Ev
open PySem PySem.Spec PyProof.Rows L2
section
variable {P : Program} {w : World} {A : Around} {E : Value → Shared → Prop} {s : Shared}
end
/-! ### the ints of a list, each once, rising -/
section
variable {X : Cx} {W : WX}
end
section
variable {ρ : Env'} {S : Store} {a : M D}
end
end Ev
namespace Ev
open PySem PySem.Spec PyProof.Rows L2
/-! ### min of a tuple of ints -/
section
variable {X : Cx} {W : WX}
end
section
variable {ρ : Env'} {S : Store} {a : M D}
end
end Ev
/-! Ev32: set(a) == set(b), lists of ints. -/
namespace Ev
open PySem PySem.Spec PyProof.Rows L2
def IsS0 (h : Heap) (a : Addr) (es : Array (Int × Value)) : Prop := ∃ o ep t, h.get? a = some o ∧ o.ExactSet ∧ o.data = .set es ep t ∧ (∀ e ∈ es.toList, GoodE e) ∧ es.size < scanBound ∧ t.fits es.size = true
theorem IsS0.set {P : Program} {w : World} {h : Heap} {a : Addr} {es : Array (Int × Value)} (x : IsS0 h a es) : h.SetOf (intKind P w) a (fun k => decide (k ∈ es.toList.map keyOf)) es.size := by
  obtain ⟨o, ep, t, ho, hx, hd, g, hb, hf⟩ := x
  exact ⟨o, es, ep, t, ho, hx, hd, good_elems g, fun k => by rw [decide_eq_true_eq]; exact good_mem g k, hb, hf, rfl⟩
section
variable {P : Program} {w : World} {A : Around} {E : Value → Shared → Prop} {s : Shared}
end
end Ev
/-! Ev33: set(a) == set(b). -/
namespace Ev
open PySem PySem.Spec PyProof.Rows L2
section
variable {X : Cx} {W : WX}
end
section
variable {ρ : Env'} {S : Store} {ma mb : M D}
end
end Ev
/-! Ev34: numbers, cuts. -/
namespace Ev
open PySem PySem.Spec PyProof.Rows L2
theorem md_3 : ((0 : Int) < 3) = True := eq_true (by decide)
theorem md_4 : ((0 : Int) < 4) = True := eq_true (by decide)
theorem md_6 : ((0 : Int) < 6) = True := eq_true (by decide)
theorem md_7 : ((0 : Int) < 7) = True := eq_true (by decide)
theorem md_9 : ((0 : Int) < 9) = True := eq_true (by decide)
theorem md_10 : ((0 : Int) < 10) = True := eq_true (by decide)
theorem md_11 : ((0 : Int) < 11) = True := eq_true (by decide)
theorem md_19 : ((0 : Int) < 19) = True := eq_true (by decide)
theorem md_22 : ((0 : Int) < 22) = True := eq_true (by decide)
theorem md_23 : ((0 : Int) < 23) = True := eq_true (by decide)
theorem md_36 : ((0 : Int) < 36) = True := eq_true (by decide)
theorem md_100 : ((0 : Int) < 100) = True := eq_true (by decide)
theorem md_1009 : ((0 : Int) < 1009) = True := eq_true (by decide)
theorem dv_3 : ((0 : Int) < 3 ∧ (3 : Int).natAbs.log2 < 9000) = True := eq_true (by decide)
theorem dv_4 : ((0 : Int) < 4 ∧ (4 : Int).natAbs.log2 < 9000) = True := eq_true (by decide)
theorem dv_5 : ((0 : Int) < 5 ∧ (5 : Int).natAbs.log2 < 9000) = True := eq_true (by decide)
theorem dv_6 : ((0 : Int) < 6 ∧ (6 : Int).natAbs.log2 < 9000) = True := eq_true (by decide)
theorem dv_7 : ((0 : Int) < 7 ∧ (7 : Int).natAbs.log2 < 9000) = True := eq_true (by decide)
theorem dv_9 : ((0 : Int) < 9 ∧ (9 : Int).natAbs.log2 < 9000) = True := eq_true (by decide)
theorem dv_10 : ((0 : Int) < 10 ∧ (10 : Int).natAbs.log2 < 9000) = True := eq_true (by decide)
theorem dv_16 : ((0 : Int) < 16 ∧ (16 : Int).natAbs.log2 < 9000) = True := eq_true (by decide)
theorem dv_18 : ((0 : Int) < 18 ∧ (18 : Int).natAbs.log2 < 9000) = True := eq_true (by decide)
theorem dv_22 : ((0 : Int) < 22 ∧ (22 : Int).natAbs.log2 < 9000) = True := eq_true (by decide)
theorem dv_30 : ((0 : Int) < 30 ∧ (30 : Int).natAbs.log2 < 9000) = True := eq_true (by decide)
theorem dv_36 : ((0 : Int) < 36 ∧ (36 : Int).natAbs.log2 < 9000) = True := eq_true (by decide)
theorem dv_60 : ((0 : Int) < 60 ∧ (60 : Int).natAbs.log2 < 9000) = True := eq_true (by decide)
theorem dv_64 : ((0 : Int) < 64 ∧ (64 : Int).natAbs.log2 < 9000) = True := eq_true (by decide)
theorem dv_66 : ((0 : Int) < 66 ∧ (66 : Int).natAbs.log2 < 9000) = True := eq_true (by decide)
theorem dv_90 : ((0 : Int) < 90 ∧ (90 : Int).natAbs.log2 < 9000) = True := eq_true (by decide)
theorem dv_198 : ((0 : Int) < 198 ∧ (198 : Int).natAbs.log2 < 9000) = True := eq_true (by decide)
theorem dv_396 : ((0 : Int) < 396 ∧ (396 : Int).natAbs.log2 < 9000) = True := eq_true (by decide)
theorem dv_594 : ((0 : Int) < 594 ∧ (594 : Int).natAbs.log2 < 9000) = True := eq_true (by decide)
theorem dv_613 : ((0 : Int) < 613 ∧ (613 : Int).natAbs.log2 < 9000) = True := eq_true (by decide)
theorem dv_1009 : ((0 : Int) < 1009 ∧ (1009 : Int).natAbs.log2 < 9000) = True := eq_true (by decide)
theorem dv_1782 : ((0 : Int) < 1782 ∧ (1782 : Int).natAbs.log2 < 9000) = True := eq_true (by decide)
theorem dv_4096 : ((0 : Int) < 4096 ∧ (4096 : Int).natAbs.log2 < 9000) = True := eq_true (by decide)
theorem dv_12078 : ((0 : Int) < 12078 ∧ (12078 : Int).natAbs.log2 < 9000) = True := eq_true (by decide)
theorem dv_24156 : ((0 : Int) < 24156 ∧ (24156 : Int).natAbs.log2 < 9000) = True := eq_true (by decide)
theorem dv_256 : ((0 : Int) < 256 ∧ (256 : Int).natAbs.log2 < 9000) = True := eq_true (by decide)
theorem lg_2 : ((2 : Int).natAbs.log2 < 9000) = True := eq_true (by decide)
theorem lg_3 : ((3 : Int).natAbs.log2 < 9000) = True := eq_true (by decide)
theorem lg_4 : ((4 : Int).natAbs.log2 < 9000) = True := eq_true (by decide)
theorem lg_5 : ((5 : Int).natAbs.log2 < 9000) = True := eq_true (by decide)
theorem lg_6 : ((6 : Int).natAbs.log2 < 9000) = True := eq_true (by decide)
theorem lg_7 : ((7 : Int).natAbs.log2 < 9000) = True := eq_true (by decide)
theorem lg_9 : ((9 : Int).natAbs.log2 < 9000) = True := eq_true (by decide)
theorem lg_10 : ((10 : Int).natAbs.log2 < 9000) = True := eq_true (by decide)
theorem lg_16 : ((16 : Int).natAbs.log2 < 9000) = True := eq_true (by decide)
theorem lg_18 : ((18 : Int).natAbs.log2 < 9000) = True := eq_true (by decide)
theorem lg_22 : ((22 : Int).natAbs.log2 < 9000) = True := eq_true (by decide)
theorem lg_30 : ((30 : Int).natAbs.log2 < 9000) = True := eq_true (by decide)
theorem lg_36 : ((36 : Int).natAbs.log2 < 9000) = True := eq_true (by decide)
theorem lg_60 : ((60 : Int).natAbs.log2 < 9000) = True := eq_true (by decide)
theorem lg_64 : ((64 : Int).natAbs.log2 < 9000) = True := eq_true (by decide)
theorem lg_66 : ((66 : Int).natAbs.log2 < 9000) = True := eq_true (by decide)
theorem lg_90 : ((90 : Int).natAbs.log2 < 9000) = True := eq_true (by decide)
theorem lg_198 : ((198 : Int).natAbs.log2 < 9000) = True := eq_true (by decide)
theorem lg_396 : ((396 : Int).natAbs.log2 < 9000) = True := eq_true (by decide)
theorem lg_594 : ((594 : Int).natAbs.log2 < 9000) = True := eq_true (by decide)
theorem lg_613 : ((613 : Int).natAbs.log2 < 9000) = True := eq_true (by decide)
theorem lg_1009 : ((1009 : Int).natAbs.log2 < 9000) = True := eq_true (by decide)
theorem lg_1782 : ((1782 : Int).natAbs.log2 < 9000) = True := eq_true (by decide)
theorem lg_4096 : ((4096 : Int).natAbs.log2 < 9000) = True := eq_true (by decide)
theorem lg_12078 : ((12078 : Int).natAbs.log2 < 9000) = True := eq_true (by decide)
theorem lg_24156 : ((24156 : Int).natAbs.log2 < 9000) = True := eq_true (by decide)
theorem lg_256 : ((256 : Int).natAbs.log2 < 9000) = True := eq_true (by decide)
theorem md_5 : ((0 : Int) < 5) = True := eq_true (by decide)
theorem md_16 : ((0 : Int) < 16) = True := eq_true (by decide)
theorem md_18 : ((0 : Int) < 18) = True := eq_true (by decide)
theorem md_30 : ((0 : Int) < 30) = True := eq_true (by decide)
theorem md_60 : ((0 : Int) < 60) = True := eq_true (by decide)
theorem md_64 : ((0 : Int) < 64) = True := eq_true (by decide)
theorem md_66 : ((0 : Int) < 66) = True := eq_true (by decide)
theorem md_90 : ((0 : Int) < 90) = True := eq_true (by decide)
theorem md_198 : ((0 : Int) < 198) = True := eq_true (by decide)
theorem md_396 : ((0 : Int) < 396) = True := eq_true (by decide)
theorem md_594 : ((0 : Int) < 594) = True := eq_true (by decide)
theorem md_613 : ((0 : Int) < 613) = True := eq_true (by decide)
theorem md_1782 : ((0 : Int) < 1782) = True := eq_true (by decide)
theorem md_4096 : ((0 : Int) < 4096) = True := eq_true (by decide)
theorem md_12078 : ((0 : Int) < 12078) = True := eq_true (by decide)
theorem md_24156 : ((0 : Int) < 24156) = True := eq_true (by decide)
theorem md_256 : ((0 : Int) < 256) = True := eq_true (by decide)
end Ev
/-! Ev35: pure comprehensions, == of coded lists. -/
namespace Ev
open PySem PySem.Spec PyProof.Rows L2
theorem of_get {α : Type} {es : List α} {p : α → Prop} (h : ∀ (i : Nat) (e : α), es[i]? = some e → p e) : ∀ e ∈ es, p e := fun e he => by
  obtain ⟨i, hi, rfl⟩ := List.mem_iff_getElem.mp he
  exact h i _ (List.getElem?_eq_getElem hi)
theorem sorted_lst {ns : List Int} {S : Store} : bltD .sorted [.lst (ns.map D.int)] S = some (.lst ((sortI ns).map D.int)) := by
  have : intsL S (.lst (ns.map D.int)) = some ns := by unfold intsL; rw [seqL_lst]; exact intsD_map ns
  show sortedD (.lst (ns.map D.int)) S = _
  unfold sortedD
  dsimp only
  rw [this]
theorem blt_min2 {i j : Int} {S : Store} : bltD .min [.int i, .int j] S = some (.int (if j < i then j else i)) := rfl
theorem blt_max2 {i j : Int} {S : Store} : bltD .max [.int i, .int j] S = some (.int (if j > i then j else i)) := rfl
/-- pop(0) of a list -/
theorem pop0_wp {i : Nat} {n : Nat} {ρ : Env'} {S : Store} {d : D} {ds : List D} {Q : D → Store → Prop} {E : XP} (hv : ρ[i]? = some (some (.ref n))) (h : S[n]? = some (.lst (d :: ds))) (q : Q d (S.set n (.lst ds))) : (mPopAt (mVar i) (mLit (.int 0)) ρ S).wp Q E := by
  rw [x_popAt, x_var, hv]
  dsimp only
  rw [bind_ok]
  dsimp only
  rw [if_pos (isLst_T h), x_lit, bind_ok]
  dsimp only
  rw [h]
  dsimp only
  rw [if_pos (show In63 0 from ⟨by decide, by decide⟩)]
  have : seqIndex? 0 (d :: ds).length = some 0 := by unfold seqIndex?; simp
  rw [this]
  exact q
/-- == by what stands there -/
theorem eqD_py {S : Store} {d e : D} {p q : PyData} (h1 : py S 66 d = some p) (h2 : py S 66 e = some q) (s1 : SeqAt.shaped p = true) (s2 : SeqAt.shaped q = true) : eqD S d e = some (PyData.eqv p q) := by
  unfold eqD
  rw [h1, h2]
  dsimp only
  rw [if_pos ⟨s1, s2⟩]
end Ev
/-! Ev36: == of nested lists, longer stores. -/
namespace Ev
open PySem PySem.Spec PyProof.Rows L2
/-- what may be compared -/
def Shp (n : Nat) (p : PyData) : Prop := p.canLay0 = true ∧ p.depth ≤ n
theorem Shp.shaped {n : Nat} {p : PyData} (h : Shp n p) (hn : n ≤ 64) : SeqAt.shaped p = true := by
  unfold SeqAt.shaped; rw [h.1, decide_eq_true (Nat.le_trans h.2 hn)]; rfl
theorem Shp.up {n m : Nat} {p : PyData} (h : Shp n p) (hn : n ≤ m) : Shp m p := ⟨h.1, Nat.le_trans h.2 hn⟩
theorem shpAll {n : Nat} : ∀ {ps : List PyData}, (∀ p ∈ ps, Shp n p) → PyData.canLayAll0 ps = true ∧ PyData.depthAll ps ≤ n
  | [], _ => by unfold PyData.canLayAll0 PyData.depthAll; exact ⟨rfl, Nat.zero_le _⟩
  | p :: ps, h => by
    obtain ⟨h1, h2⟩ := h p (by simp)
    obtain ⟨h3, h4⟩ := shpAll fun q hq => h q (List.mem_cons_of_mem _ hq)
    unfold PyData.canLayAll0 PyData.depthAll
    exact ⟨by rw [h1, h3]; rfl, by omega⟩
theorem Shp.list {n : Nat} {ps : List PyData} (h : ∀ p ∈ ps, Shp n p) : Shp (n + 1) (.list ps) := by
  obtain ⟨h1, h2⟩ := shpAll h
  unfold Shp PyData.canLay0 PyData.depth
  exact ⟨h1, by omega⟩
theorem Shp.tuple {n : Nat} {ps : List PyData} (h : ∀ p ∈ ps, Shp n p) : Shp (n + 1) (.tuple ps) := by
  obtain ⟨h1, h2⟩ := shpAll h
  unfold Shp PyData.canLay0 PyData.depth
  exact ⟨h1, by omega⟩
theorem Shp.int {n : Nat} {i : Int} : Shp n (.int i) := by unfold Shp PyData.canLay0 PyData.depth; exact ⟨rfl, Nat.zero_le _⟩
theorem Shp.bool {n : Nat} {i : Bool} : Shp n (.bool i) := by unfold Shp PyData.canLay0 PyData.depth; exact ⟨rfl, Nat.zero_le _⟩
theorem Shp.none {n : Nat} : Shp n .none := by unfold Shp PyData.canLay0 PyData.depth; exact ⟨rfl, Nat.zero_le _⟩
theorem Shp.ints {n : Nat} {ns : List Int} : ∀ p ∈ ns.map PyData.int, Shp n p := fun p hp => by obtain ⟨z, _, rfl⟩ := List.mem_map.mp hp; exact .int
theorem eqD_shp {S : Store} {d e : D} {p q : PyData} {n m : Nat} (h1 : py S 66 d = some p) (h2 : py S 66 e = some q) (s1 : Shp n p) (s2 : Shp m q) (hn : n ≤ 64) (hm : m ≤ 64) : eqD S d e = some (PyData.eqv p q) := eqD_py h1 h2 (s1.shaped hn) (s2.shaped hm)
theorem py_lst {S : Store} {d : D} {ds : List D} {k : Nat} (h : seqL S d = some ds) : py S (k + 1) d = (ds.mapM (py S k)).map PyData.list := by
  cases d <;> first | (cases h; rfl) | (cases h; done) | skip
  rename_i n
  have h2 : S[n]? = some (.lst ds) := by
    rw [seqL_ref] at h
    cases q : S[n]? with
    | none => rw [q] at h; cases h
    | some c =>
      rw [q] at h
      cases c <;> first | (cases h; rfl) | cases h
  show (match S[n]? with
      | some (.lst ds) => (ds.mapM (py S k)).map PyData.list
      | _ => none) = _
  rw [h2]
theorem closeR_keep' {S U : Store} {Q : D → Store → Prop} {d : D} (hc : Clean S U) (hl : d.lo S.length = false) (hr : ∀ n, d ≠ .ref n) (q : Q d U) : closeR S Q d U := by
  refine closeR_eq (r := d) (S3 := U) ?_ q
  unfold closeD
  rw [if_pos hc, if_neg (by rw [hl]; simp)]
  cases d <;> first | rfl | exact absurd rfl (hr _)
end Ev
/-! Ev37: lists by places, pairs of bounds, plain data. -/
namespace Ev
open PySem PySem.Spec PyProof.Rows L2
/-- a thing that a tuple holds as it is -/
def Sd (d : D) : Prop := (∀ n, d.lo n = true) ∧ ∀ S, box d S = (d, S)
theorem Sd.int {i : Int} : Sd (.int i) := ⟨fun _ => lo_int, fun _ => rfl⟩
theorem Sd.non : Sd .non := ⟨fun _ => rfl, fun _ => rfl⟩
theorem Sd.tup {ds : List D} (h : ∀ n, loL n ds = true) : Sd (.tup ds) := ⟨fun n => by rw [lo_tup]; exact h n, fun _ => rfl⟩
theorem cat_ref {S T : Store} {ds ys : List D} (h : ds.length + ys.length ≤ sizeLine) : binD .Add (.ref S.length) (.lst ys) (S ++ .lst ds :: T) = some (.lst (ds ++ ys)) :=
  bin_cat (by rw [seqW_ref, getT0]; rfl) seqW_lst h
theorem idx_lst {ds : List D} {S : Store} {i : Int} {d : D} (h0 : 0 ≤ i) (h : ds[i.toNat]? = some d) : idxD (.lst ds) (.int i) S = some d := by
  obtain ⟨k, rfl⟩ := Int.eq_ofNat_of_zero_le h0
  obtain ⟨hk, e⟩ := List.getElem?_eq_some_iff.mp h
  show atI ds (k : Int) = _
  have hk : k < ds.length := hk
  unfold atI ixN
  simp [hk, ← e]
theorem idx_any {d : D} {ds : List D} {S : Store} {i : Int} {e : D} (hd : seqA S d = some ds) (hs : ∀ x, d ≠ .str x) (h0 : 0 ≤ i) (h : ds[i.toNat]? = some e) : idxD d (.int i) S = some e := by
  obtain ⟨k, rfl⟩ := Int.eq_ofNat_of_zero_le h0
  obtain ⟨hk, he⟩ := List.getElem?_eq_some_iff.mp h
  have hk : k < ds.length := hk
  have go : atI ds (k : Int) = some e := by
    unfold atI ixN
    simp [hk, ← he]
  cases d <;> first | exact absurd rfl (hs _) | (unfold idxD; dsimp only; rw [hd]; exact go)
theorem fits {i : Int} (h0 : -1000000 ≤ i) (h1 : i < 1000000) : Builtin.Range.rangeFitsLong i = true := by
  unfold Builtin.Range.rangeFitsLong
  rw [decide_eq_true (by omega), decide_eq_true (by omega)]; rfl
theorem rgc_of {i j c : Int} (hc : 0 < c) (hc2 : c < 1000) (h0 : 0 ≤ i) (h1 : i < 100000) (h2 : 0 ≤ j) (h3 : j < 100000) : RgC i j c (rgN i j c) := by
  have hs : 0 ≤ Builtin.Range.rangeSize i j c ∧ Builtin.Range.rangeSize i j c ≤ 100000 := by
    unfold Builtin.Range.rangeSize
    rw [if_pos hc]
    split
    · have a0 : 0 ≤ (j - i - 1) / c := Int.ediv_nonneg (by omega) (by omega)
      have a1 : (j - i - 1) / c ≤ j - i - 1 := Int.ediv_le_self _ (by omega)
      omega
    · omega
  refine ⟨by omega, by omega, ?_, ?_⟩
  · unfold Builtin.Range.small
    rw [fits (by omega) (by omega), fits (by omega) (by omega), fits (by omega) (by omega), fits (by omega) (by omega), if_pos hc, fits (by omega) (by omega), Bool.or_true]; rfl
  · unfold rgN; omega
theorem rangeC_at {lo c : Int} {n i : Nat} {d : D} (h : (rangeC lo c n)[i]? = some d) : d = .int (lo + (i : Int) * c) ∧ i < n := by
  unfold rangeC at h
  rw [List.getElem?_map] at h
  obtain ⟨k, hk, rfl⟩ := Option.map_eq_some_iff.mp h
  obtain ⟨hk1, hk2⟩ := List.getElem?_eq_some_iff.mp hk
  rw [List.getElem_range] at hk2
  subst hk2
  exact ⟨rfl, by simpa using hk1⟩
def bdD : Option Int → D
  | none => .non
  | some i => .int i
theorem bd_lo {n : Nat} {b : Option Int} : (bdD b).lo n = true := by cases b <;> rfl
theorem box_bd {S : Store} {b : Option Int} : box (bdD b) S = (bdD b, S) := by cases b <;> rfl
theorem pl_tup {nb : Bool} {n : Nat} {ds : List D} : (D.tup ds).pl nb (n + 1) = plL nb n ds := by conv => lhs; unfold D.pl
end Ev
/-! Ev38: list.count of flat things. -/
namespace Ev
open PySem PySem.Spec PyProof.Rows L2
section
variable {X : Cx}
end
/-- o.count(e), flat things -/
def cntF (o : Option (List D)) (e : D) : Option D := match o, flatD e with
  | some ds, some k => match ds.mapM flatD with
    | some vs => some (.int (vs.countP (fun y => eqV y k) : Nat))
    | none => none
  | _, _ => none
def mCountF (mo me : M D) : M D := fun ρ S => (mo ρ S).bind fun o S1 => if (seqL S1 o).isSome = true then (me ρ S1).bind fun e S2 => Out.of (cntF (seqL S2 o) e) S2 else .fail
section
variable {X : Cx} {W : WX}
end
section
variable {ρ : Env'} {S : Store} {a b : M D}
@[simp] theorem x_countF : mCountF a b ρ S = (a ρ S).bind fun o S1 => if (seqL S1 o).isSome = true then (b ρ S1).bind fun e S2 => Out.of (cntF (seqL S2 o) e) S2 else .fail := (rfl)
end
end Ev
/-! Ev39: raise C(a, b), C an own class of exceptions whose __init__ calls its base's and keeps a, b. -/
namespace Ev
open PySem PySem.Spec PyProof.Rows L2
/-- the base, a class of the program over ValueError without an __init__ -/
structure BaseT (K : PySem.W.Frag) (mg : Str → Option Value) (L : Str) : Prop where
  ex : ∃ B : Addr, mg L = some (.ref B) ∧ PySem.W.specialIn K (.ref B) "__getattribute__" = some (some (.builtin "type.__getattribute__")) ∧ PySem.W.readsIn K B (.type "type") = true ∧
    PySem.W.findCls K (.ref B) (.type "type") "__init__" = some (.val (.builtin "ValueError.__init__"))
section
variable {X : Cx} {e : Expr} {es : List Expr} {ta : TA} {L : Str} {p1 p2 pos : Pos}
end
/-- what __init__ with two fields promises -/
def spI2 (K : PySem.W.Frag) (f1 f2 : Str) : Sp := fun vs H Q E => ∃ (a C : Addr) (y1 y2 : V), vs = [.ref a, y1, y2] ∧ OexC K C ∧ PySem.W.findIn K (.ref C) f1 = some none ∧ PySem.W.findIn K (.ref C) f2 = some none ∧ H a = some (exo a C none) ∧
  ∀ dx, H dx = none → dx ≠ a → Q .non (upd (upd H dx (exd dx [(f2, y2), (f1, y1)])) a (exo a C (some dx)))
def spI1 (K : PySem.W.Frag) (f1 : Str) : Sp := fun vs H Q E => ∃ (a C : Addr) (y1 : V), vs = [.ref a, y1] ∧ OexC K C ∧ PySem.W.findIn K (.ref C) f1 = some none ∧ H a = some (exo a C none) ∧
  ∀ dx, H dx = none → dx ≠ a → Q .non (upd (upd H dx (exd dx [(f1, y1)])) a (exo a C (some dx)))
section
variable {P : Program} {w : World} {K : PySem.W.Frag} {mg : Str → Option Value} {base : Heap}
end
/-- an own class of exceptions with an __init__ of two fields -/
structure ExcI2 (X : Cx) (x f1 f2 : Str) : Prop where
  ex : ∃ (C fI : Addr) (fd : FuncData) (ps : List Str), X.mg x = some (.ref C) ∧ OexC X.K C ∧ PySem.W.findIn X.K (.ref C) "__init__" = some (some (.ref fI)) ∧ PySem.W.typeIn X.K (.ref fI) = some (.type "function") ∧
    PySem.W.findIn X.K (.ref C) f1 = some none ∧ PySem.W.findIn X.K (.ref C) f2 = some none ∧ Binds X.K fd ps [] ∧ FnOk X.prog X.w X.K X.mg X.base CX0 1 fI fd ps (spI2 X.K f1 f2)
structure ExcI1 (X : Cx) (x f1 : Str) : Prop where
  ex : ∃ (C fI : Addr) (fd : FuncData) (ps : List Str), X.mg x = some (.ref C) ∧ OexC X.K C ∧ PySem.W.findIn X.K (.ref C) "__init__" = some (some (.ref fI)) ∧ PySem.W.typeIn X.K (.ref fI) = some (.type "function") ∧
    PySem.W.findIn X.K (.ref C) f1 = some none ∧ Binds X.K fd ps [] ∧ FnOk X.prog X.w X.K X.mg X.base CX0 1 fI fd ps (spI1 X.K f1)
def sRaise2 (x f1 f2 : Str) (m1 m2 : M D) : MS := fun ρ S => (m1 ρ S).s ρ fun d1 S1 => (m2 ρ S1).s ρ fun d2 S2 => if d1.cell? = none ∧ d2.cell? = none then .exc x [f2, f1] [d2, d1] ρ S2 else .fail
def sRaise1 (x f1 : Str) (m1 : M D) : MS := fun ρ S => (m1 ρ S).s ρ fun d1 S1 => if d1.cell? = none then .exc x [f1] [d1] ρ S1 else .fail
section
variable {X : Cx} {W : WX}
end
end Ev
/-! Ev40: the facts that a raise of Ev39 leans on, from the run of the head. -/
namespace Ev
open PySem PySem.Spec PyProof.Rows L2
section
variable {K : PySem.W.Frag} {mg : Str → Option Value}
end
/-- as the defs of a law are told of it -/
structure XI2 (P : Program) (w : World) (K : PySem.W.Frag) (mg : Str → Option Value) (base : Heap) (x f1 f2 : Str) : Prop where
  ex : ∃ (C fI : Addr) (fd : FuncData) (ps : List Str), mg x = some (.ref C) ∧ OexC K C ∧ PySem.W.findIn K (.ref C) "__init__" = some (some (.ref fI)) ∧ PySem.W.typeIn K (.ref fI) = some (.type "function") ∧
    PySem.W.findIn K (.ref C) f1 = some none ∧ PySem.W.findIn K (.ref C) f2 = some none ∧ Binds K fd ps [] ∧ FnOk P w K mg base CX0 1 fI fd ps (spI2 K f1 f2)
structure XI1 (P : Program) (w : World) (K : PySem.W.Frag) (mg : Str → Option Value) (base : Heap) (x f1 : Str) : Prop where
  ex : ∃ (C fI : Addr) (fd : FuncData) (ps : List Str), mg x = some (.ref C) ∧ OexC K C ∧ PySem.W.findIn K (.ref C) "__init__" = some (some (.ref fI)) ∧ PySem.W.typeIn K (.ref fI) = some (.type "function") ∧
    PySem.W.findIn K (.ref C) f1 = some none ∧ Binds K fd ps [] ∧ FnOk P w K mg base CX0 1 fI fd ps (spI1 K f1)
theorem XI2.ok {X : Cx} {x f1 f2 : Str} (h : XI2 X.prog X.w X.K X.mg X.base x f1 f2) : ExcI2 X x f1 f2 := ⟨h.ex⟩
theorem XI1.ok {X : Cx} {x f1 : Str} (h : XI1 X.prog X.w X.K X.mg X.base x f1) : ExcI1 X x f1 := ⟨h.ex⟩
section
variable {P : Program} {w : World} {K : PySem.W.Frag} {mg : Str → Option Value} {base : Heap}
end
section
variable {ρ : Env'} {S : Store} {x f1 f2 : Str} {m1 m2 : M D}
@[simp] theorem x_raise2 : sRaise2 x f1 f2 m1 m2 ρ S = (m1 ρ S).s ρ fun d1 S1 => (m2 ρ S1).s ρ fun d2 S2 => if d1.cell? = none ∧ d2.cell? = none then .exc x [f2, f1] [d2, d1] ρ S2 else .fail := (rfl)
@[simp] theorem x_raise1 : sRaise1 x f1 m1 ρ S = (m1 ρ S).s ρ fun d1 S1 => if d1.cell? = none then .exc x [f1] [d1] ρ S1 else .fail := (rfl)
end
end Ev
/-! Ev41: any, all of a list while an exception is handled. -/
namespace PySem
open PySem.Spec PyProof.Rows HotX
section
variable {prog : Program} {w : World} {A : Around} {E : Value → Shared → Prop} {s : Shared}
end
end PySem
namespace Ev
open PySem PySem.Spec PyProof.Rows L2 HotX
section
variable {X : Cx} {W : WX}
end
end Ev
/-! Ev42: <, min of a list, list.index of alike plain data (tuples of tuples). -/
namespace Ev
open PySem PySem.Spec PyProof.Rows L2
open Classical in
/-- plain, and alike to one another -/
def Alk (ds : List D) : Prop := (∃ n, n ≤ 60 ∧ plL false n ds = true) ∧ PySem.W.AlikeAll (toPL ds)
section
variable {K : PySem.W.Frag} {mg : Str → Option Value} {μ : List Addr} {H0 H : Hp} {S : Store}
end
open Classical in
/-- xs.index(e) -/
noncomputable def idxN (o : Option (List D)) (e : D) : Option D := match o with
  | some ds => if Alk (e :: ds) ∧ toP e ∈ toPL ds ∧ ds.length ≤ 100000 then some (.int ((toPL ds).idxOf (toP e) : Nat)) else none
  | none => none
section
variable {X : Cx}
end
noncomputable def mIdxN (mo me : M D) : M D := fun ρ S => (mo ρ S).bind fun o S1 => if (seqL S1 o).isSome = true then (me ρ S1).bind fun e S2 => Out.of (idxN (seqL S2 o) e) S2 else .fail
section
variable {X : Cx} {W : WX}
end
section
variable {ρ : Env'} {S : Store} {a b : M D}
@[simp] theorem x_idxN : mIdxN a b ρ S = (a ρ S).bind fun o S1 => if (seqL S1 o).isSome = true then (b ρ S1).bind fun e S2 => Out.of (idxN (seqL S2 o) e) S2 else .fail := (rfl)
end
end Ev
/-! Ev43: list(zip(xs, ys)) of two lists. -/
namespace Ev
open PySem PySem.W PySem.Calls PySem.Spec PyProof.Rows
/-- a zip over two lists, i pairs given -/
def ZlSt (z TI TO i1 i2 l1 l2 S : Addr) (xs ys : Array Value) (i : Nat) (h : Heap) : Prop :=
  IsPair h TI (.ref i1) (.ref i2) ∧ h.IsListIter i1 l1 i ∧ h.IsListIter i2 l2 i ∧ h.IsList l1 xs ∧ h.IsList l2 ys ∧
    ((IsZip h z TI TO .none ∧ ∃ a b, IsPair h TO a b) ∨ ∃ T f oT, IsZipHeld h z TI TO T f ∧ h.get? T = some oT ∧ T ≠ z ∧ T ≠ i1 ∧ T ≠ i2 ∧ T ≠ S)
/-- the addresses as hold the pairs -/
structure ZlG (xs ys : Array Value) (lo : Addr) (h : Heap) (as : List Addr) : Prop where
  rise : as.Pairwise (· < ·)
  above : ∀ a ∈ as, lo < a
  pairs : ∀ (j : Nat) (a : Addr), as[j]? = some a → ∃ x y, xs[j]? = some x ∧ ys[j]? = some y ∧ IsPair h a x y
theorem ZlG.there {xs ys : Array Value} {lo : Addr} {h : Heap} {as : List Addr} (g : ZlG xs ys lo h as) {a : Addr} (ha : a ∈ as) : a < h.objs.size := by
  obtain ⟨j, hj⟩ := List.mem_iff_getElem?.mp ha
  obtain ⟨_, _, _, _, e⟩ := g.pairs j a hj
  exact Heap.lt_size e
/-- the cells of the zip lie below the list -/
structure ZlLow (z TI TO i1 i2 l1 l2 S : Nat) : Prop where
  z : z < S
  TI : TI < S
  TO : TO < S
  i1 : i1 < S
  i2 : i2 < S
  l1 : l1 < S
  l2 : l2 < S
section
variable {z TI TO i1 i2 l1 l2 S : Addr} {xs ys : Array Value}
theorem ZlSt.keep {i : Nat} {h₁ h₂ : Heap} (L : ZlLow z TI TO i1 i2 l1 l2 S) (st : ZlSt z TI TO i1 i2 l1 l2 S xs ys i h₁) (hk : ∀ b o, b ≠ S → h₁.get? b = some o → h₂.get? b = some o) : ZlSt z TI TO i1 i2 l1 l2 S xs ys i h₂ := by
  obtain ⟨hTI, h1, h2, hl1, hl2, hz⟩ := st
  refine ⟨hk _ _ (Nat.ne_of_lt L.TI) hTI, h1.at fun o e => hk _ o (Nat.ne_of_lt L.i1) e, h2.at fun o e => hk _ o (Nat.ne_of_lt L.i2) e, hl1.at fun o e => hk _ o (Nat.ne_of_lt L.l1) e, hl2.at fun o e => hk _ o (Nat.ne_of_lt L.l2) e, ?_⟩
  rcases hz with ⟨hz, a, b, hTO⟩ | ⟨T, f, oT, hz, hT, r1, r2, r3, r4⟩
  · exact .inl ⟨hk _ _ (Nat.ne_of_lt L.z) hz, a, b, hk _ _ (Nat.ne_of_lt L.TO) hTO⟩
  · exact .inr ⟨T, f, oT, hk _ _ (Nat.ne_of_lt L.z) hz, hk _ _ r4 hT, r1, r2, r3, r4⟩
variable {prog : Program} {w : World} {A : Around} {E : Value → Shared → Prop} {s : Shared}
end
section
variable {prog : Program} {w : World} {A : Around} {s : Shared} {R : Result → Shared → Prop} {z TI TO i1 i2 l1 l2 S : Addr} {xs ys : Array Value}
end
section
variable {prog : Program} {w : World} {A : Around} {E : Value → Shared → Prop} {s : Shared} {z TI TO i1 i2 l1 l2 S : Addr} {xs ys : Array Value}
end

open L2
/-! ### at the hand layer -/
section
variable {X : Cx} {pins : List (Addr × Obj)} {σ : L2.St} {H H' : Hp} {s : Shared} {h' : Heap}
end
/-! ### list(zip(..)) in the layer -/
def mLstZip (m m' : M D) : M D := fun ρ S => (m ρ S).bind fun d S1 => (m' ρ S1).bind fun e S2 => match seqL S2 d, seqL S2 e with
  | some ds, some es => .ok (.lst (zipL ds es)) S2
  | _, _ => .fail
@[simp] theorem x_lstZip {a b : M D} {ρ : Env'} {S : Store} : mLstZip a b ρ S = (a ρ S).bind fun d S1 => (b ρ S1).bind fun e S2 => match seqL S2 d, seqL S2 e with
  | some ds, some es => .ok (.lst (zipL ds es)) S2
  | _, _ => .fail := rfl
section
variable {K : PySem.W.Frag} {mg : Str → Option Value} {μ : List Addr} {S : Store}
end
section
variable {X : Cx} {W : WX}
end
end Ev
/-! Ev44: t[::-1] of a tuple. -/
namespace Ev
open PySem PySem.Spec PyProof.Rows L2 HT
section
variable {prog : Program} {w : World} {A : Around} {E : Value → Shared → Prop} {s : Shared}
end
section
variable {X : Cx} {W : WX}
/-- t[::-1] of a tuple -/
def mRevT (ma : M D) : M D := fun ρ S => (ma ρ S).bind fun d S1 => match seqT d with
  | some ds => .ok (.tup ds.reverse) S1
  | none => .fail
@[simp] theorem x_revT {a : M D} {ρ : Env'} {S : Store} : mRevT a ρ S = (a ρ S).bind fun d S1 => match seqT d with
  | some ds => .ok (.tup ds.reverse) S1
  | none => .fail := rfl
end
end Ev
/-! Ev45: an except suite that raises an own exception out of the try; a def that lets it out; try .. as around it. -/
namespace Ev
open PySem PySem.Spec PyProof.Rows L2
section
variable {X : Cx} {W : WX}
/-! ### a def that lets such an exception out -/
structure CallOkX (X : Cx) (x : Str) (n : Nat) (f : Fn) : Prop where
  ex : ∃ (a : Addr) (fd : FuncData) (ps : List Str) (k : Nat), X.mg x = some (.ref a) ∧ PySem.W.keepIn X.K (.ref a) = true ∧ Binds X.K fd ps [] ∧ Rm k X.A ∧ FnG X.prog X.w X.K X.mg X.base (L2.CX X.prog X.w) k a fd ps (spOf X.K X.mg n f)
end
/-- a def that may be called, with room for k calls within one another -/
structure CalX (P : Program) (w : World) (K : PySem.W.Frag) (mg : Str → Option Value) (base : Heap) (x : Str) (n : Nat) (f : Fn) (k : Nat) : Prop where
  ex : ∃ (a : Addr) (fd : FuncData) (ps : List Str), mg x = some (.ref a) ∧ PySem.W.keepIn K (.ref a) = true ∧ Binds K fd ps [] ∧ FnG P w K mg base (L2.CX P w) k a fd ps (spOf K mg n f)
theorem CalX.ok {X : Cx} {x : Str} {n : Nat} {f : Fn} {k : Nat} (c : CalX X.prog X.w X.K X.mg X.base x n f k) (hr : Rm k X.A) : CallOkX X x n f :=
  let ⟨a, fd, ps, h1, h2, h3, h4⟩ := c.ex
  ⟨⟨a, fd, ps, k, h1, h2, h3, hr, h4⟩⟩
section
variable {K : PySem.W.Frag} {mg : Str → Option Value}
end
/-! ### the exception's __init__ while another is handled -/
section
variable {P : Program} {w : World} {K : PySem.W.Frag} {mg : Str → Option Value} {base : Heap}
end
structure ExcH2 (X : Cx) (x f1 f2 : Str) : Prop where
  ex : ∃ (C fI : Addr) (fd : FuncData) (ps : List Str), X.mg x = some (.ref C) ∧ OexC X.K C ∧ PySem.W.findIn X.K (.ref C) "__init__" = some (some (.ref fI)) ∧ PySem.W.typeIn X.K (.ref fI) = some (.type "function") ∧
    PySem.W.findIn X.K (.ref C) f1 = some none ∧ PySem.W.findIn X.K (.ref C) f2 = some none ∧ Binds X.K fd ps [] ∧ L2H.FnH X.prog X.w X.K X.mg X.base CX0 1 fI fd ps (spI2 X.K f1 f2)
structure XH2 (P : Program) (w : World) (K : PySem.W.Frag) (mg : Str → Option Value) (base : Heap) (x f1 f2 : Str) : Prop where
  ex : ∃ (C fI : Addr) (fd : FuncData) (ps : List Str), mg x = some (.ref C) ∧ OexC K C ∧ PySem.W.findIn K (.ref C) "__init__" = some (some (.ref fI)) ∧ PySem.W.typeIn K (.ref fI) = some (.type "function") ∧
    PySem.W.findIn K (.ref C) f1 = some none ∧ PySem.W.findIn K (.ref C) f2 = some none ∧ Binds K fd ps [] ∧ L2H.FnH P w K mg base CX0 1 fI fd ps (spI2 K f1 f2)
theorem XH2.ok {X : Cx} {x f1 f2 : Str} (h : XH2 X.prog X.w X.K X.mg X.base x f1 f2) : ExcH2 X x f1 f2 := ⟨h.ex⟩
section
variable {X : Cx} {W : WX}
end
section
variable {X : Cx} {W : WX}
end
end Ev
/-! Ev46: a module's constant that is a tuple, of tuples too. -/
namespace Ev
open PySem PySem.Spec PyProof.Rows L2
/-- what stands in the fragment for ever -/
def FixV (K : PySem.W.Frag) (u : Value) (d : D) : Prop := ∃ v, RelV v u ∧ d.cell? = none ∧ ∀ μ H, Rep K μ H d v
/-- the module's constants -/
structure CtT (K : PySem.W.Frag) (mg : Str → Option Value) (x : Str) (d : D) : Prop where
  ex : ∃ u, mg x = some u ∧ FixV K u d
end Ev
/-! Ev47: str of a tuple of plain data, where no text is being made around. -/
namespace Ev
open PySem PySem.Spec PyProof.Rows L2
end Ev
/-! Ev48: programs, worlds, steps and moves as plain things, and what moves do. -/
namespace Ev
open PySem PySem.Spec PyProof.Rows L2

/-! ### the plain things -/
/-- a letter; a hand's part; a world -/
structure WL where
  kind : Int
  num : Int
  name : Int
structure WP where
  place : Int
  num : List Int
  nam : List Int
  grp : List Int
  bell : Bool
structure WW where
  parts : List WP
  rows : List (List (List WL))
  lose : Int
  fall : Int
def WL.d (l : WL) : D := .tup [.int l.kind, .int l.num, .int l.name]
def WP.d (p : WP) : D := .tup [.int p.place, .tup (p.num.map .int), .tup (p.nam.map .int), .tup (p.grp.map .int), .bl p.bell]
def wayD (ls : List WL) : D := .tup (ls.map WL.d)
def rowD (r : List (List WL)) : D := .tup (r.map wayD)
def WW.d (w : WW) : D := .tup [.tup (w.parts.map WP.d), .tup (w.rows.map rowD), .tup [.int w.lose, .int w.fall]]
/-- a line of a take; a step -/
structure SL where
  kind : Int
  a : Int
  m : Int
  f : Int
  place : Int
def SL.d (l : SL) : D := .tup [.int l.kind, .int l.a, .int l.m, .int l.f, .int l.place]
inductive SS where
  | put (a n : Int) | copy (a b : Int) | raise (a n : Int) | sum (a b : Int) | choose (a n : Int)
  | less (a n p : Int) | before (a b p : Int) | go (p : Int)
  | me (n : Int) | only (n r : Int) | pick (n r : Int) | alike (n m p : Int)
  | all (s r : Int) | empty (s : Int) | join (s n : Int) | out (n s p : Int) | many (s k p : Int)
  | send (n k a m : Int) | take (n : Int) (ls : List SL) | bell
def SS.d : SS → D
  | .put a n => .tup [.str "put", .int a, .int n]
  | .copy a b => .tup [.str "copy", .int a, .int b]
  | .raise a n => .tup [.str "raise", .int a, .int n]
  | .sum a b => .tup [.str "sum", .int a, .int b]
  | .choose a n => .tup [.str "choose", .int a, .int n]
  | .less a n p => .tup [.str "less", .int a, .int n, .int p]
  | .before a b p => .tup [.str "before", .int a, .int b, .int p]
  | .go p => .tup [.str "go", .int p]
  | .me n => .tup [.str "me", .int n]
  | .only n r => .tup [.str "only", .int n, .int r]
  | .pick n r => .tup [.str "pick", .int n, .int r]
  | .alike n m p => .tup [.str "alike", .int n, .int m, .int p]
  | .all s r => .tup [.str "all", .int s, .int r]
  | .empty s => .tup [.str "empty", .int s]
  | .join s n => .tup [.str "join", .int s, .int n]
  | .out n s p => .tup [.str "out", .int n, .int s, .int p]
  | .many s k p => .tup [.str "many", .int s, .int k, .int p]
  | .send n k a m => .tup [.str "send", .int n, .int k, .int a, .int m]
  | .take n ls => .tup [.str "take", .int n, .tup (ls.map SL.d)]
  | .bell => .tup [.str "bell"]
def SS.word : SS → Str
  | .put _ _ => "put" | .copy _ _ => "copy" | .raise _ _ => "raise" | .sum _ _ => "sum" | .choose _ _ => "choose"
  | .less _ _ _ => "less" | .before _ _ _ => "before" | .go _ => "go" | .me _ => "me" | .only _ _ => "only" | .pick _ _ => "pick"
  | .alike _ _ _ => "alike" | .all _ _ => "all" | .empty _ => "empty" | .join _ _ => "join" | .out _ _ _ => "out" | .many _ _ _ => "many"
  | .send _ _ _ _ => "send" | .take _ _ => "take" | .bell => "bell"
def SS.cls : SS → Str
  | .put _ _ => "Put" | .copy _ _ => "Copy" | .raise _ _ => "Raise" | .sum _ _ => "Sum" | .choose _ _ => "Choose"
  | .less _ _ _ => "Less" | .before _ _ _ => "Before" | .go _ => "Go" | .me _ => "Me" | .only _ _ => "Only" | .pick _ _ => "Pick"
  | .alike _ _ _ => "Alike" | .all _ _ => "All" | .empty _ => "Empty" | .join _ _ => "Join" | .out _ _ _ => "Out" | .many _ _ _ => "Many"
  | .send _ _ _ _ => "Send" | .take _ _ => "Take" | .bell => "Bell"
def SL.Ok (len : Int) (l : SL) : Prop := (0 ≤ l.kind ∧ l.kind ≤ 12) ∧ (0 ≤ l.a ∧ l.a ≤ 2) ∧ (0 ≤ l.m ∧ l.m ≤ 2) ∧ (0 ≤ l.f ∧ l.f ≤ 2) ∧ l.m ≠ l.f ∧ 0 ≤ l.place ∧ l.place ≤ len
/-- a box; a set -/
def Bx (a : Int) : Prop := 0 ≤ a ∧ a ≤ 2
def St1 (s : Int) : Prop := 0 ≤ s ∧ s ≤ 1
def SS.Ok (len : Int) (cs : List Int) : SS → Prop
  | .put a _ => Bx a | .copy a b => Bx a ∧ Bx b | .raise a _ => Bx a | .sum a b => Bx a ∧ Bx b | .choose a n => Bx a ∧ 1 ≤ n ∧ n ≤ 20
  | .less a _ p => Bx a ∧ 0 ≤ p ∧ p ≤ len | .before a b p => (Bx a ∧ Bx b) ∧ 0 ≤ p ∧ p ≤ len | .go p => 0 ≤ p ∧ p ≤ len
  | .me n => Bx n | .only n r => Bx n ∧ 0 ≤ r ∧ r < cs.length ∧ ati cs r = 1 | .pick n r => Bx n ∧ 0 ≤ r ∧ r < cs.length
  | .alike n m p => (Bx n ∧ Bx m) ∧ 0 ≤ p ∧ p ≤ len | .all s r => St1 s ∧ 0 ≤ r ∧ r < cs.length | .empty s => St1 s | .join s n => St1 s ∧ Bx n
  | .out n s p => (Bx n ∧ St1 s) ∧ 0 ≤ p ∧ p ≤ len | .many s k p => (St1 s ∧ 0 ≤ k ∧ k ≤ 6) ∧ 0 ≤ p ∧ p ≤ len
  | .send n k a m => Bx n ∧ (1 ≤ k ∧ k ≤ 12) ∧ Bx a ∧ Bx m
  | .take n ls => (-1 ≤ n ∧ n ≤ 2) ∧ ls ≠ [] ∧ ls.length ≤ 13 ∧ (ls.map SL.kind).Nodup ∧ ∀ l ∈ ls, l.Ok len
  | .bell => True
/-- a program -/
structure PP where
  room : Int
  lo : Int
  fa : Int
  roles : List (List SS)
  hands : List Int
def PP.d (P : PP) : D := .tup [.int P.room, .tup [.int P.lo, .int P.fa], .tup (P.roles.map fun p => .tup (p.map SS.d)), .tup (P.hands.map .int)]
/-- how many hands -/
abbrev PP.n (P : PP) : Nat := P.hands.length
def PP.cnt (P : PP) : List Int := (iota P.roles.length).map fun r => (P.hands.count r : Nat)
/-- the hands of a role -/
def PP.of (P : PP) (r : Int) : List Int := (iota P.hands.length).filter fun k => decide (ati P.hands k = r)
def PP.others (P : PP) (r h : Int) : List Int := (P.of r).filter fun k => decide (k ≠ h)
def PP.part (P : PP) (r : Int) : List SS := P.roles[r.toNat]?.getD []
def PP.len (P : PP) (h : Int) : Nat := (P.part (ati P.hands h)).length
structure PP.Ok (P : PP) : Prop where
  room : 1 ≤ P.room ∧ P.room ≤ 10
  lo : 0 ≤ P.lo ∧ P.lo ≤ 5
  fa : 0 ≤ P.fa ∧ P.fa ≤ 5
  n : 1 ≤ P.n ∧ P.n ≤ 6
  rl : 1 ≤ P.roles.length ∧ P.roles.length ≤ 6
  len : ∀ p ∈ P.roles, p.length ≤ 60
  hands : ∀ r ∈ P.hands, 0 ≤ r ∧ r < P.roles.length
  steps : ∀ p ∈ P.roles, ∀ st ∈ p, st.Ok p.length P.cnt

/-! ### sets of hands -/
def mem (g : Nat) (n : Nat) : List Int := ((List.range n).filter fun i => g.testBit i).map fun (i : Nat) => (i : Int)
def memI (g : Int) : List Int := mem g.toNat 60
def setL : Nat → List Int → Nat
  | acc, [] => acc
  | acc, h :: hs => setL (acc ||| 1 <<< h.toNat) hs

/-! ### a world, seen and changed -/
def WP.none : WP := ⟨0, [0, 0, 0], [-1, -1, -1], [0, 0], false⟩
def WP.fallen : WP := ⟨-1, [0, 0, 0], [-1, -1, -1], [0, 0], false⟩
def WW.pt (w : WW) (h : Int) : WP := w.parts[h.toNat]?.getD WP.none
def WW.row (w : WW) (t : Int) : List (List WL) := w.rows[t.toNat]?.getD []
/-- the letters on their way from a hand to a hand -/
def WW.way (w : WW) (f t : Int) : List WL := (w.row t)[f.toNat]?.getD []
def WW.setP (w : WW) (h : Int) (p : WP) : WW := { w with parts := w.parts.set h.toNat p }
def WW.setW (w : WW) (f t : Int) (ls : List WL) : WW := { w with rows := w.rows.set t.toNat ((w.row t).set f.toNat ls) }
def WW.numOf (w : WW) (h b : Int) : Int := ati (w.pt h).num b
def WW.namOf (w : WW) (h b : Int) : Int := ati (w.pt h).nam b
def WW.grpOf (w : WW) (h b : Int) : Int := ati (w.pt h).grp b
def WW.putN (w : WW) (h b n : Int) : WW := w.setP h { w.pt h with num := (w.pt h).num.set b.toNat n }
def WW.putM (w : WW) (h b n : Int) : WW := w.setP h { w.pt h with nam := (w.pt h).nam.set b.toNat n }
def WW.putG (w : WW) (h b n : Int) : WW := w.setP h { w.pt h with grp := (w.pt h).grp.set b.toNat n }
def WW.putB (w : WW) (h : Int) (b : Bool) : WW := w.setP h { w.pt h with bell := b }
def WW.putL (w : WW) (h p : Int) : WW := w.setP h { w.pt h with place := p }
def PP.first (P : PP) : WW := ⟨P.hands.map fun _ => WP.none, P.hands.map fun _ => P.hands.map fun _ => [], P.lo, P.fa⟩

/-! ### steps done -/
inductive MC where
  | num (k : Int) | one (h : Int) | two (h k : Int)
  deriving DecidableEq
def MC.d : MC → D
  | .num k => .int k
  | .one h => .tup [.int h]
  | .two h k => .tup [.int h, .int k]
inductive MM where
  | do (h : Int) (c : MC) | lose (f t : Int) | fall (h : Int)
  deriving DecidableEq
def MM.d : MM → D
  | .do h c => .tup [.str "do", .int h, c.d]
  | .lose f t => .tup [.str "lose", .int f, .int t]
  | .fall h => .tup [.str "fall", .int h]
/-- a take's line of a kind -/
def lineOf (ls : List SL) (k : Int) : Option SL := ls.find? fun l => decide (l.kind = k)
def hasRoom (P : PP) (w : WW) (h t : Int) : Bool := decide ((w.pt t).place < 0) || decide (((w.way h t).length : Int) < P.room)
/-- the letter that a take may take from a hand -/
def takes (w : WW) (h : Int) (ls : List SL) (s : Int) : Option MC := match (w.way s h).head? with
  | some l => if (lineOf ls l.kind).isSome then some (.two s l.kind) else none
  | none => none
def takeHands (P : PP) (w : WW) (h n : Int) : List Int := if n < 0 then iota P.n else (iota P.n).filter fun s => decide (s = w.namOf h n)
def ways (P : PP) (w : WW) (h : Int) : SS → List MC
  | .choose _ n => (iota n.toNat).map MC.num
  | .pick _ r => (P.others r h).map MC.one
  | .out _ s _ => if w.grpOf h s = 0 then [.num 0] else (memI (w.grpOf h s)).map MC.one
  | .send n _ _ _ => if w.namOf h n < 0 ∨ hasRoom P w h (w.namOf h n) = true then [.num 0] else []
  | .take n ls => (if (lineOf ls 0).isSome ∧ (w.pt h).bell = true then [.two (-1) 0] else []) ++ (takeHands P w h n).filterMap (takes w h ls)
  | _ => [.num 0]
def MC.h : MC → Int
  | .num k => k
  | .one h => h
  | .two h _ => h
def MC.k : MC → Int
  | .two _ k => k
  | _ => 0
def pushL (w : WW) (h t : Int) (l : WL) : WW := if 0 ≤ (w.pt t).place then w.setW h t (w.way h t ++ [l]) else w
def tookL (w : WW) (h : Int) (ls : List SL) (s k : Int) : WW := match (w.way s h).head?, lineOf ls k with
  | some l, some n => (((w.setW s h (w.way s h).tail).putN h n.a l.num).putM h n.m l.name).putM h n.f s
  | _, _ => w
def changed (P : PP) (w : WW) (h : Int) (c : MC) : SS → WW
  | .put a n => w.putN h a n
  | .copy a b => w.putN h a (w.numOf h b)
  | .raise a n => w.putN h a (w.numOf h a + n)
  | .sum a b => w.putN h a (w.numOf h a + w.numOf h b)
  | .choose a _ => w.putN h a c.h
  | .me n => w.putM h n h
  | .only n r => w.putM h n ((P.of r)[0]?.getD 0)
  | .pick n _ => w.putM h n c.h
  | .all s r => w.putG h s (setL 0 (P.others r h) : Nat)
  | .empty s => w.putG h s 0
  | .join s n => if 0 ≤ w.namOf h n then w.putG h s (((w.grpOf h s).toNat ||| setL 0 [w.namOf h n] : Nat) : Int) else w
  | .send n k a m => if 0 ≤ w.namOf h n then pushL w h (w.namOf h n) ⟨k, w.numOf h a, w.namOf h m⟩ else w
  | .take _ ls => if c.h < 0 then w.putB h false else tookL w h ls c.h c.k
  | .bell => w.putB h true
  | _ => w
def onward (w : WW) (h : Int) (c : MC) : SS → Int
  | .go p => p
  | .less a n p => if w.numOf h a < n then p else (w.pt h).place + 1
  | .before a b p => if w.numOf h a < w.numOf h b then p else (w.pt h).place + 1
  | .alike n m p => if w.namOf h n = w.namOf h m then p else (w.pt h).place + 1
  | .out _ s p => if w.grpOf h s = 0 then p else (w.pt h).place + 1
  | .many s k p => if k ≤ (memI (w.grpOf h s)).length then p else (w.pt h).place + 1
  | .take _ ls => match lineOf ls c.k with
    | some l => l.place
    | none => 0
  | _ => (w.pt h).place + 1
def made (P : PP) (w : WW) (h : Int) (c : MC) (st : SS) : WW := match st with
  | .out n s p => match c with
    | .one x => ((w.putG h s (((w.grpOf h s).toNat ^^^ setL 0 [x] : Nat) : Int)).putM h n x).putL h (onward w h c (.out n s p))
    | _ => w.putL h (onward w h c (.out n s p))
  | st => (changed P w h c st).putL h (onward (changed P w h c st) h c st)
/-- the step at which a hand is -/
def PP.at (P : PP) (w : WW) (h : Int) : Option SS := if (w.pt h).place < 0 then none else (P.part (ati P.hands h))[(w.pt h).place.toNat]?
def own (P : PP) (w : WW) (h : Int) : List MM := match P.at w h with
  | some st => (ways P w h st).map (MM.do h)
  | none => []
def moves (P : PP) (w : WW) : List MM := (iota P.n).flatMap (own P w)
  ++ (if 0 < w.lose then (iota P.n).flatMap fun s => ((iota P.n).filter fun t => decide (w.way s t ≠ [])).map (MM.lose s) else [])
  ++ (if 0 < w.fall then ((iota P.n).filter fun h => decide (0 ≤ (w.pt h).place)).map MM.fall else [])
/-- a world of a program, with bounds that the reckoning wants -/
structure WW.Ok (P : PP) (w : WW) : Prop where
  np : w.parts.length = P.n
  nr : w.rows.length = P.n
  nw : ∀ r ∈ w.rows, r.length = P.n
  num : ∀ p ∈ w.parts, p.num.length = 3
  nam : ∀ p ∈ w.parts, p.nam.length = 3 ∧ ∀ x ∈ p.nam, -1 ≤ x ∧ x < P.n
  grp : ∀ p ∈ w.parts, p.grp.length = 2 ∧ ∀ g ∈ p.grp, 0 ≤ g ∧ g < 2 ^ P.n
  plc : ∀ h : Int, 0 ≤ h → h < P.n → -1 ≤ (w.pt h).place ∧ (w.pt h).place ≤ P.len h
  lets : ∀ r ∈ w.rows, ∀ y ∈ r, (y.length : Int) ≤ P.room ∧ ∀ l ∈ y, (1 ≤ l.kind ∧ l.kind ≤ 12) ∧ -1 ≤ l.name ∧ l.name < P.n
  lo : 0 ≤ w.lose ∧ w.lose ≤ P.lo
  fa : 0 ≤ w.fall ∧ w.fall ≤ P.fa
/-! ### a comprehension over what is told of items -/
theorem comp_flt {α : Type} {b : Bind} {mt : M Bool} {me : M D} {g : Guard} {ρ0 : Env'} {S : Store} {ι : α → D} {xs : List α} {Q : List D → Store → Prop} {E : XP} (p : α → Bool) (f : α → D) (hg : gOk g S)
    (step : ∀ x ∈ xs, ∃ ρ1, b (ι x) ρ0 = some ρ1 ∧ (mt ρ1 S).wp (fun k S1 => S1 = S ∧ k = p x) E ∧ (p x = true → (me ρ1 S).wp (fun e S2 => box e S2 = (f x, S)) E)) (done : Q ((xs.filter p).map f) S) : (compL b mt me g ρ0 (xs.map ι) S).wp Q E := by
  refine comp_wp (fun i es S' => S' = S ∧ es = ((xs.take i).filter p).map f) ⟨rfl, rfl⟩ (fun i es S' h => by rw [h.1]; exact hg) ?_ ?_
  · rintro i d es S' hi ⟨e0, e1⟩
    subst e0
    rw [List.getElem?_map] at hi
    cases hx : xs[i]? with
    | none => rw [hx] at hi; cases hi
    | some x =>
      rw [hx] at hi
      obtain rfl : ι x = d := Option.some.inj hi
      obtain ⟨ρ1, h1, h2, h3⟩ := step x (List.mem_of_getElem? hx)
      have ht : xs.take (i + 1) = xs.take i ++ [x] := by rw [List.take_add_one, hx]; rfl
      refine ⟨ρ1, h1, h2.imp (fun k S1 z => ?_) fun _ _ _ _ z => z⟩
      obtain ⟨rfl, rfl⟩ := z
      cases hp : p x with
      | false =>
        rw [if_neg (by simp)]
        exact ⟨rfl, by rw [e1, ht, List.filter_append, List.filter_cons, hp]; simp⟩
      | true =>
        rw [if_pos rfl]
        refine (h3 hp).imp (fun e S2 z => ?_) fun _ _ _ _ z => z
        rw [z]
        exact ⟨rfl, by rw [e1, ht, List.filter_append, List.filter_cons, hp]; simp⟩
  · rintro es S' ⟨rfl, rfl⟩
    rw [List.length_map, List.take_of_length_le (Nat.le_refl _)]
    exact done
end Ev
/-! Ev49: what moves keep. -/
namespace Ev
open PySem PySem.Spec PyProof.Rows L2
/-- a part that hand h may have -/
structure WP.Ok (P : PP) (h : Int) (p : WP) : Prop where
  num : p.num.length = 3
  nam : p.nam.length = 3 ∧ ∀ x ∈ p.nam, -1 ≤ x ∧ x < P.n
  grp : p.grp.length = 2 ∧ ∀ g ∈ p.grp, 0 ≤ g ∧ g < 2 ^ P.n
  plc : -1 ≤ p.place ∧ p.place ≤ P.len h
def WL.Ok (P : PP) (l : WL) : Prop := (1 ≤ l.kind ∧ l.kind ≤ 12) ∧ -1 ≤ l.name ∧ l.name < P.n
section
variable {P : PP} {w : WW} {h : Int}
/-! ### moves keep worlds -/
/-! ### sets -/
end
end Ev
/-! Ev50: moves as texts. -/
namespace Ev
open PySem PySem.Spec PyProof.Rows L2
def MC.p : MC → PyData
  | .num k => .int k
  | .one h => .tuple [.int h]
  | .two h k => .tuple [.int h, .int k]
def MM.p : MM → PyData
  | .do h c => .tuple [.str "do", .int h, c.p]
  | .lose f t => .tuple [.str "lose", .int f, .int t]
  | .fall h => .tuple [.str "fall", .int h]
section
variable {P : PP} {w : WW} {S : Store}
end
end Ev
/-! Ev51: xs.clear(). -/
namespace Ev
open PySem PySem.Spec PyProof.Rows L2
section
variable {X : Cx} {W : WX}
/-- o.clear() -/
def mClr (mo : M D) : M D := fun ρ S => (mo ρ S).bind fun o S1 => match o with
  | .ref n => match S1[n]? with
    | some (.lst _) => .ok .non (S1.set n (.lst []))
    | _ => .fail
  | _ => .fail
@[simp] theorem x_clr {mo : M D} {ρ : Env'} {S : Store} : mClr mo ρ S = (mo ρ S).bind fun o S1 => match o with
  | .ref n => match S1[n]? with
    | some (.lst _) => .ok .non (S1.set n (.lst []))
    | _ => .fail
  | _ => .fail := rfl
end
end Ev
/-! Ev52: x in a list, x not in a list, for data of any depth. -/
namespace Ev
open PySem PySem.Spec PyProof.Rows L2
section
variable {X : Cx} {W : WX}
end
end Ev
/-! Ev53: functions as values: what a function made within a def promises; defs that are handed one. -/
namespace Ev
open PySem PySem.Spec PyProof.Rows L2 NdefX LamX

/-- the promise of a function that a def made: ws, what its captured cells hold -/
structure FnN (P : Program) (w : World) (K : PySem.W.Frag) (mg : Str → Option Value) (base : Heap) (CX : CXT) (k : Nat) (f : Addr) (F : NF) (lm : Option Expr) (ps fr : List Str) (sp : List (Option V) → Sp) : Prop where
  len : ∀ ws vs H Q E, sp ws vs H Q E → vs.length = ps.length
  run : ∀ (A : Around) (outer : List Env) (s : Shared) (H : Hp) (us : List Value) (vs : List V) (ws : List (Option V)) (Q : VK) (E : XK), Rm k A → Env0 P w K mg base A outer s H → H f = some (hoOf f F lm) → H F.c = some (CodeO F.c F.qual) →
    CellsAt F.cl fr ws s.heap H → Vals vs us → sp ws vs H Q E → codeAny (model P w) A (.call (.ref f) ⟨us, []⟩) (CR CX outer P w H s Q E) s
section
variable {CX : CXT} {P : Program} {w : World} {K : PySem.W.Frag} {mg : Str → Option Value} {base : Heap} {N ps fr : List Str} {F : NF} {f : Addr} {k j : Nat} {lm : Option Expr} {sp sp' : List (Option V) → Sp}
theorem FnN.mono (o : FnN P w K mg base CX j f F lm ps fr sp) (h : j ≤ k) : FnN P w K mg base CX k f F lm ps fr sp := ⟨o.len, fun _ _ _ _ _ _ _ _ _ r => o.run _ _ _ _ _ _ _ _ _ (r.mono h)⟩
end

/-! ### the reading of such a body -/
/-- ws0: what the captured cells hold; g: what it does, told what they are -/
def spC (K : PySem.W.Frag) (mg : Str → Option Value) (n : Nat) (ws0 : List V) (g : List D → Fn) : List (Option V) → Sp := fun ws vs H Q E => ws = ws0.map some ∧ ∃ μ S ds cs, Rel K mg μ S H ∧ ResL K mg μ (fun _ => none) H ds vs ∧ ds.length = n ∧ RepL K μ H cs ws0 ∧ match g cs ds S with
  | .ok d S' => ∀ v μ' H', StepX K mg (newA ds vs) μ H μ' S' H' → ResX K mg (newA ds vs) μ' H H' d v → Q v H'
  | .exc c ks es S' => ∀ cls dx μ' H', StepX K mg (newA ds vs) μ H μ' S' H' → ExcRep K mg μ' H' c ks es cls dx → E cls dx H'
  | .fail => False
noncomputable def runC (body : MS) (slots : Nat) (cs : List D) : Fn := fun ds S => match body ((boxL ds S).1.map some ++ (cs.map some ++ List.replicate (slots - ds.length - cs.length) none)) (boxL ds S).2 with
  | .next ρ S2 => .ok .non (closeD S .non S2).2
  | .ret d S2 => .ok (closeD S d S2).1 (closeD S d S2).2
  | .exc c ks es ρ S2 => .exc c ks es (closeL S es S2)
  | _ => .fail
section
variable {K : PySem.W.Frag} {mg : Str → Option Value}
theorem EnvOk.app {μ : List Addr} {H : Hp} {ρ1 ρ2 : Env'} {σ1 σ2 : L2.St} (h1 : EnvOk K μ H ρ1 σ1) (h2 : EnvOk K μ H ρ2 σ2) : EnvOk K μ H (ρ1 ++ ρ2) (σ1 ++ σ2) := by
  refine ⟨by rw [List.length_append, List.length_append, h1.len, h2.len], fun i d e => ?_⟩
  by_cases hi : i < ρ1.length
  · rw [List.getElem?_append_left hi] at e
    rw [List.getElem?_append_left (by rw [← h1.len]; exact hi)]
    exact h1.at_ i d e
  · rw [List.getElem?_append_right (by omega)] at e
    rw [List.getElem?_append_right (by rw [← h1.len]; omega), ← h1.len]
    exact h2.at_ _ d e
theorem EnvOk.reps {μ : List Addr} {H : Hp} {ds : List D} {vs : List V} (r : RepL K μ H ds vs) : EnvOk K μ H (ds.map some) (vs.map some) := by
  refine ⟨by rw [List.length_map, List.length_map, r.length], fun i d e => ?_⟩
  rw [List.getElem?_map] at e
  cases q : ds[i]? with
  | none => rw [q] at e; cases e
  | some x =>
    rw [q] at e
    cases e
    obtain ⟨v, e1, r1⟩ := r.get q
    exact ⟨v, by rw [List.getElem?_map, e1]; rfl, r1⟩
theorem EnvOk.nones {μ : List Addr} {H : Hp} {n : Nat} : EnvOk K μ H (List.replicate n none) (List.replicate n none) := by
  refine ⟨by simp, fun i d e => ?_⟩
  rw [List.getElem?_replicate] at e
  split at e <;> cases e
theorem body_goodC {X : Cx} (hK : X.K = K) (hmg : X.mg = mg) {body : MS} {N : List Str} {n : Nat} {ws0 : List V} {ws : List (Option V)} {vs : List V} {H : Hp} {Q : VK} {E : XK} (h : spC K mg n ws0 (runC body N.length) ws vs H Q E) :
    TMs X (fun cls dx _ H => E cls dx H) body { nx := fun _ H' => Q .non H', rt := Q } (startF N vs ws) H := by
  subst hK
  subst hmg
  obtain ⟨rfl, μ, S, ds, cs, R, hl, hn, rc, h⟩ := h
  have st0 : Step X.K X.mg [] (fun _ => none) μ S H := ⟨μ, rfl, R, (fun a o z _ => by cases z), fun _ _ => rfl⟩
  obtain ⟨ext, st1, r1, hext⟩ := Step.boxL hl st0
  have R1 := st1.rel
  have hlen : (boxL ds S).1.length = ds.length := by rw [r1.length, ← hl.length]
  have hE : EnvOk X.K (μ ++ ext) H ((boxL ds S).1.map some ++ (cs.map some ++ List.replicate (N.length - ds.length - cs.length) none)) (startF N vs (ws0.map some)) := by
    unfold startF
    rw [List.length_map, ← rc.length, ← hl.length]
    exact (EnvOk.reps r1).app ((EnvOk.reps (rc.mono R.wr Keep.refl)).app EnvOk.nones)
  refine ⟨μ ++ ext, (boxL ds S).2, _, R1, hE, ?_⟩
  have see : ∀ {μ' : List Addr} {S' : Store} {H' : Hp}, Step X.K X.mg (μ ++ ext) H μ' S' H' → StepX X.K X.mg (newA ds vs) μ H μ' S' H' := fun {μ' S' H'} st => by
    obtain ⟨e2, q2, R2, k2, f2⟩ := st
    refine ⟨ext ++ e2, by rw [q2, List.append_assoc], R2, fun a o ha hm hx => k2 a o ha (fun z => ?_), fun a ha => ?_⟩
    · rcases List.mem_append.mp z with z | z
      · exact hm z
      · exact hx (hext a z)
    · rcases List.mem_append.mp ha with z | z
      · exact .inr (hext a z)
      · exact .inl (f2 a z)
  have seeR : ∀ {μ' : List Addr} {H' : Hp} {d : D} {v : V}, ResOk X.K X.mg μ' H H' d v → ResX X.K X.mg (newA ds vs) μ' H H' d v := fun {μ' H' d v} x => by
    unfold ResOk at x
    unfold ResX
    cases hc : d.cell? with
    | some c =>
      rw [hc] at x
      obtain ⟨a, e, h1, h2, h3⟩ := x
      exact ⟨a, e, h1, h2, .inl h3⟩
    | none => rw [hc] at x; exact x
  unfold runC at h
  cases hb : body ((boxL ds S).1.map some ++ (cs.map some ++ List.replicate (N.length - ds.length - cs.length) none)) (boxL ds S).2 with
  | next ρ S2 =>
    rw [hb] at h
    intro σ' μ' H' st E'
    obtain ⟨μ2, s2, x2⟩ := closeD_ok R (see st) (seeR (res_non (H0 := H)))
    have hz : (closeD S .non S2).1 = .non := by unfold closeD; split <;> rfl
    rw [hz] at x2
    exact h .non μ2 H' s2 x2
  | brk ρ S2 => rw [hb] at h; exact h.elim
  | cont ρ S2 => rw [hb] at h; exact h.elim
  | fail => rw [hb] at h; exact h.elim
  | ret d S2 =>
    rw [hb] at h
    intro v μ' H' st x
    obtain ⟨μ2, s2, x2⟩ := closeD_ok R (see st) (seeR x)
    exact h v μ2 H' s2 x2
  | exc c ks es ρ S2 =>
    rw [hb] at h
    intro cls dx σ' μ' H' st E' x
    obtain ⟨μ2, s2, x2⟩ := closeL_ok R (see st) x
    exact h cls dx μ2 H' s2 x2
end

/-! ### a def that is handed such a function -/
/-- c may be called with n arguments, and does g -/
structure CloOk (P : Program) (w : World) (K : PySem.W.Frag) (mg : Str → Option Value) (base : Heap) (j n : Nat) (g : List D → Fn) (outer : List Env) (h : Heap) (H : Hp) (c : Clo) : Prop where
  ex : ∃ ps fr, ps.length = n ∧ CellsAt c.F.cl fr (c.ws.map some) h H ∧ FnN P w K mg base (L2N.CX P w) j c.a c.F c.lam ps fr (spC K mg n c.ws g)
  nf : ∀ y a, c.F.cl.lookup y = some a → a ∉ frs outer
/-- a def's promise; what is asked may look at the callers' frames and at the heap -/
structure FnH (P : Program) (w : World) (K : PySem.W.Frag) (mg : Str → Option Value) (base : Heap) (CX : CXT) (k : Nat) (f : Addr) (fd : FuncData) (ps : List Str) (sp : List Env → Heap → Sp) : Prop where
  len : ∀ o h vs H Q E, sp o h vs H Q E → vs.length = ps.length
  run : ∀ (A : Around) (outer : List Env) (s : Shared) (H : Hp) (args : Args) (us : List Value) (vs : List V) (Q : VK) (E : XK),
    Rm k A → Env0 P w K mg base A outer s H → BindsTo s fd args (ps.zip us) → Vals vs us → sp outer s.heap vs H Q E → codeAny (model P w) A (.call (.ref f) args) (CR CX outer P w H s Q E) s
theorem fnH_of {CX : CXT} {P : Program} {w : World} {K : PySem.W.Frag} {mg : Str → Option Value} {base : Heap} {k : Nat} {f : Addr} {name qual : Str} {params : Arguments} {body : List Stmt} {scope : Scope}
    {dV kV doc pm cdv ct oc : Value} {an od : Option Addr} {osl : Array (Option Value)} {N ps : List Str} {sp : List Env → Heap → Sp}
    (lk : K.lookup f = some ⟨oc, od, .func (PySem.W.fnOf name qual params body scope dV kV doc pm an cdv ct), osl⟩) (hcd : PySem.W.codeIn K cdv qual = true) (Sc : FnScope N ps scope)
    (len : ∀ o h vs H Q E, sp o h vs H Q E → vs.length = ps.length)
    (hbody : ∀ (A : Around) (outer : List Env) (s : Shared) (H : Hp) (vs : List V) (Q : VK) (E : XK), Rm k (A.deeper (envOfC qual scope s.heap.objs.size f cdv)) → sp outer s.heap vs H Q E →
      ∃ t, PSs (cxOf CX P w K mg base N qual scope f cdv A outer s H E) body t ∧ t { nx := fun _ H' => Q .non H', rt := Q } (L2.start N vs) H) :
    FnH P w K mg base CX (k + 1) f (PySem.W.fnOf name qual params body scope dV kV doc pm an cdv ct) ps sp := by
  refine ⟨len, fun A outer s H args us vs Q E r e0 hb rv q => ?_⟩
  have kept : ∀ b o, base.get? b = some o → s.heap.get? b = some o := fun b o e => (e0.bs b o e).1
  have KX : K.In s.heap := e0.mod.kin.keeps kept
  have kinds : ∀ y ∈ ps.zip us, scope.names.lookup y.1 = some .local ∨ (scope.names.lookup y.1 = some .cell ∧ ((cellsFrom (s.heap.objs.size + 1) scope.names []).lookup y.1).isSome = true) := by
    rintro ⟨n, v⟩ hy
    exact (Sc.par n (List.of_mem_zip hy).1).imp id fun z => ⟨z, PySem.W.cellsFrom_some _ _ _ (.inl z)⟩
  refine codeAny_call_function r.rm.depth (KX _ _ lk) rfl Sc.co Sc.gen rfl (PySem.W.codeRec_of KX hcd) (hb _ _ _ _ ?_)
  refine wpAny_newFunctionEnv_cells Sc.kind kinds fun env he s1 x => ?_
  cases he
  refine ⟨(e0.mod.nolimit.keeps kept).keeps x.toInCall.keep, codeAny_func ?_⟩
  obtain ⟨t, ht, hq⟩ := hbody A outer s H vs Q E (r.deeper _) q
  have I := inv_start (CX := CX) (E := E) (f := f) (cd := cdv) (qual := qual) Sc r.rm.hd e0 (len _ _ _ _ _ _ q) rv x
  refine wpAny_mono (ht.run [] s1 _ H _ I hq) (fun fl s' hs => ?_) fun e s' hs => hs
  cases fl with
  | ret u =>
    obtain ⟨v, _, H', J, r2, q2⟩ := hs
    exact ⟨v, H', J.os, J.bare, J.base, J.hok, r2, q2⟩
  | next =>
    obtain ⟨_, H', J, q2⟩ := hs
    exact ⟨V.non, H', J.os, J.bare, J.base, J.hok, rfl, q2⟩
  | _ =>
    obtain ⟨_, _, _, q2⟩ := hs
    exact False.elim q2
/-- what is asked of a def that is handed c -/
def spH (K : PySem.W.Frag) (mg : Str → Option Value) (n : Nat) (Φ : List Env → Heap → Hp → Clo → Prop) (f : Clo → Fn) : List Env → Heap → Sp := fun o h vs H Q E => ∃ c, Φ o h H c ∧ spOf K mg n (f c) vs H Q E
theorem fnH_ok {K : PySem.W.Frag} {mg : Str → Option Value} {P : Program} {w : World} {base : Heap} {x qual : Str} {st : Stmt} {f : Addr} {fd : FuncData} {N ps : List Str} {k : Nat} {body : Clo → MS} {Φ : List Env → Heap → Hp → Clo → Prop} (F : Fun K x qual st f fd) (Sc : FnScope N ps (defScope st))
    (hbody : ∀ (c : Clo) (cdv : Value) (A : Around) (outer : List Env) (s : Shared) (H : Hp) (E : XK), Φ outer s.heap H c → Rm k (A.deeper (envOfC qual (defScope st) s.heap.objs.size f cdv)) →
      EvSs (cxOf (L2N.CX P w) P w K mg base N qual (defScope st) f cdv A outer s H E) (fun cls dx _ H => E cls dx H) (defBody st) (body c)) : FnH P w K mg base (L2N.CX P w) (k + 1) f fd ps (spH K mg ps.length Φ fun c => runBody (body c) N.length) := by
  obtain ⟨oc, od, kV, doc, pm, an, cdv, ct, osl, rfl, lk, hcd⟩ := F.ex
  refine fnH_of lk hcd Sc (fun o h vs H Q E z => ?_) (fun A outer s H vs Q E hr z => ?_)
  · obtain ⟨_, _, μ, S, ds, _, hl, hn, _⟩ := z
    rw [← hl.length]; exact hn
  · obtain ⟨c, hc, z⟩ := z
    exact ⟨_, hbody c cdv A outer s H E hc hr, body_good rfl rfl z⟩
end Ev
/-! Ev54: such functions made, handed over, called. -/
namespace Ev
open PySem PySem.Spec PyProof.Rows L2 NdefX LamX
variable {X : Cx} {W : WX}

/-! ### called where they were handed over -/
theorem fnAt_ho {pins : List (Addr × Obj)} {σ : L2.St} {H : Hp} {s : Shared} {f : Addr} {F : NF} {lm : Option Expr} (I : Inv X pins σ H s) (e : H f = some (hoOf f F lm)) : PySem.W.FnAt f s.heap := by
  cases lm with
  | none => exact fnAt_of I e
  | some b =>
    obtain ⟨⟨od, sl, pm, ctv, ho⟩, _, _⟩ := I.hok f _ e
    exact ⟨_, od, _, sl, ho⟩
theorem run_fnN {CX : CXT} {k : Nat} {f : Addr} {F : NF} {ps fr : List Str} {sp : List (Option V) → Sp} {E : XK} {pins : List (Addr × Obj)} {σ : L2.St} {H : Hp} {s : Shared} {Q : VK} {us : List Value} {vs : List V} {ws : List (Option V)}
    {lm : Option Expr} (Fk : FnN X.prog X.w X.K X.mg X.base CX k f F lm ps fr sp) (hr : Rm k X.A) (hx : PassesAt CX X σ E) (I : Inv X pins σ H s) (h1 : H f = some (hoOf f F lm)) (h2 : H F.c = some (CodeO F.c F.qual)) (C : CellsAt F.cl fr ws s.heap H) (r : Vals vs us) (h : sp ws vs H Q E) :
    wpAny (model X.prog X.w) X.A (call (.ref f) us) (EP X pins σ Q) X.xe s := by
  refine wpAny_call (codeAny_mono (Fk.run _ _ _ _ _ _ _ _ _ hr I.env0 h1 h2 C r h) fun res s' hq => ?_)
  rcases res with e | fl
  · exact hx pins H s e s' I hq
  · cases fl <;> first | exact I.after hq | exact False.elim hq
open Classical in
noncomputable def mCallF (i n : Nat) (c : Clo) (g : List D → Fn) (m : M (List D)) : M D := fun ρ S => match ρ[i]? with
  | some (some (.fn c' cs)) => if c' = c then (m ρ S).bind fun ds S1 => if ds.length = n then g cs ds S1 else .fail else .fail
  | _ => .fail
theorem ev_callF {i n j : Nat} {x : Str} {e : Expr} {es : List Expr} {p pos : Pos} {g : List D → Fn} {c : Clo} {m : M (List D)} (tk : L2N.Takes X W) (hΦ : CloOk X.prog X.w X.K X.mg X.base j n g X.outer X.s_0.heap X.H_0 c) (hr : Rm j X.A) (hex : X.ex = []) (hN : X.N[i]? = some x) (hv : Vis X.env.scope x)
    (ha : EvA X W (e :: es) m) (hs : noStars (e :: es) = true) (hdb : (x == ("__debug__" : Str)) = false) (hcd : (x == ("__classdict__" : Str)) = false) :
    EvE X W (.Call (.Name x p) (e :: es) [] pos) (mCallF i n c g m) := by
  obtain ⟨ps, fr, hps, C, Fk⟩ := hΦ.ex
  refine ⟨fun pins s σ H μ S ρ I R E F => ?_⟩
  unfold mCallF at F
  split at F
  · rename_i c' cs hρ
    split at F
    · rename_i hc
      subst hc
      obtain ⟨v, hσ, rep⟩ := E.at_ i _ hρ
      have key : mCallF i n c' g m ρ S = (m ρ S).bind fun ds S1 => if ds.length = n then g cs ds S1 else .fail := by
        unfold mCallF
        rw [hρ]
        dsimp only
        rw [if_pos rfl]
      rw [key]
      have rep0 := rep
      unfold Rep at rep
      obtain ⟨rfl, h1, h2, rc⟩ := rep
      refine wpAny_Call_Name_kw (thn ((pe_var (pos := p) hN hv hdb hcd).run pins s σ H (fun v H1 => v = .ref c'.a ∧ H1 = H) I ⟨.ref c'.a, hσ, rfl, rfl⟩) fun u s1 ⟨v, H1, I1, r1, q1⟩ => ?_)
      obtain ⟨rfl, rfl⟩ := q1
      obtain rfl : u = Value.ref c'.a := r1
      unfold noStars at hs
      rw [Bool.and_eq_true] at hs
      refine PySem.W.callWith_F (first := []) (fnAt_ho I1 h1) (thn (ha.run pos pins s1 σ H1 μ S ρ I1 R E F.left) fun us s2 ⟨ds, S1, vs, μ1, H2, e1, I2, r2, st1, x1⟩ => ?_) (star_of hs.1) (noStars_any hs.2)
      have rep2 := st1.rep R rep0
      unfold Rep at rep2
      obtain ⟨_, g1, g2, rc2⟩ := rep2
      refine ⟨fnAt_ho I2 g1, ?_⟩
      show wpAny _ _ (call (.ref c'.a) us) _ _ _
      have F1 := Fine.right R st1 F e1
      split at F1
      · rename_i hn
        have CL := CellsAt.later C hΦ.nf (fun y a _ z => by rw [hex] at z; cases z) I2
        have hx : ∀ a ∈ newA ds vs, H1 a = none := fun a ha => (x1.new a ha).2.2
        refine thn (run_fnN (E := WE W σ) (Q := fun v H' => ∃ d S' μ', g cs ds S1 = .ok d S' ∧ Step X.K X.mg μ H1 μ' S' H' ∧ ResOk X.K X.mg μ' H1 H' d v) Fk hr (L2N.passAt tk σ) I2 g1 g2 CL r2 ?_) fun u s' ⟨v, H', I', r, d, S', μ', e, s2, x⟩ => ?_
        · refine ⟨rfl, μ1, S1, ds, cs, st1.rel, x1.any, hn, rc2, ?_⟩
          cases hf : g cs ds S1 with
          | ok d S' => exact fun v μ' H' s2 x => ⟨d, S', μ', rfl, s2.step R st1 hx, x.res R st1 hx⟩
          | exc ck ks es S' =>
            rw [hf] at F1
            intro cls dx μ' H' s2 x
            have F' := F
            rw [e1, bind_ok, if_pos hn, hf] at F'
            exact F' cls dx μ' H' (s2.step R st1 hx) x
          | fail => rw [hf] at F1; exact F1
        · exact ⟨d, S', v, μ', H', by rw [e1, bind_ok, if_pos hn]; exact e, I', r, s2, x⟩
      · exact F1.elim
    · exact F.elim
  · exact F.elim

/-! ### handed over -/
/-- a def that may be called, handed a function -/
structure CallH (X : Cx) (x : Str) (n : Nat) (Φ : List Env → Heap → Hp → Clo → Prop) (f : Clo → Fn) : Prop where
  ex : ∃ (a : Addr) (fd : FuncData) (ps : List Str) (k : Nat), X.mg x = some (.ref a) ∧ PySem.W.keepIn X.K (.ref a) = true ∧ Binds X.K fd ps [] ∧ Rm k X.A ∧ FnH X.prog X.w X.K X.mg X.base (L2N.CX X.prog X.w) k a fd ps (spH X.K X.mg n Φ f)
theorem run_fnH {CX : CXT} {k : Nat} {f : Addr} {fd : FuncData} {ps : List Str} {sp : List Env → Heap → Sp} {E : XK} {pins : List (Addr × Obj)} {σ : L2.St} {H : Hp} {s : Shared} {Q : VK} {us : List Value} {vs : List V}
    (F : FnH X.prog X.w X.K X.mg X.base CX k f fd ps sp) (hr : Rm k X.A) (hb : Binds X.K fd ps []) (hx : PassesAt CX X σ E) (I : Inv X pins σ H s) (r : Vals vs us) (h : sp X.stack s.heap vs H Q E) :
    wpAny (model X.prog X.w) X.A (call (.ref f) us) (EP X pins σ Q) X.xe s := by
  have hl : us.length = ps.length := r.length ▸ F.len _ _ _ _ _ _ h
  have b := hb s us I.kIn (by simpa using hl)
  rw [List.append_nil] at b
  refine wpAny_call (codeAny_mono (F.run _ _ _ _ _ _ _ _ _ hr I.env0 b r h) fun res s' hq => ?_)
  rcases res with e | fl
  · exact hx pins H s e s' I hq
  · cases fl <;> first | exact I.after hq | exact False.elim hq
/-- what the slots hold -/
def slotD (ρ : Env') (j : Nat) : Option D := match ρ[j]? with
  | some (some d) => some d
  | _ => none
theorem slots_rep {K : PySem.W.Frag} {μ : List Addr} {H : Hp} {ρ : Env'} {σ : L2.St} (E : EnvOk K μ H ρ σ) : ∀ {js : List Nat} {cs : List D}, js.mapM (slotD ρ) = some cs → ∃ ws : List V, js.map (slotAt σ) = ws.map some ∧ RepL K μ H cs ws
  | [], cs, h => by cases h; exact ⟨[], rfl, RepL.nil⟩
  | j :: js, cs, h => by
    rw [List.mapM_cons] at h
    cases h1 : slotD ρ j with
    | none => rw [h1] at h; cases h
    | some d =>
      cases h2 : js.mapM (slotD ρ) with
      | none => rw [h1, h2] at h; cases h
      | some ds =>
        rw [h1, h2] at h
        cases h
        obtain ⟨ws, e, r⟩ := slots_rep E h2
        have hj : ρ[j]? = some (some d) := by
          unfold slotD at h1
          split at h1
          · rename_i d' e'; cases h1; exact e'
          · cases h1
        obtain ⟨v, hv, rv⟩ := E.at_ j d hj
        exact ⟨v :: ws, by rw [List.map_cons, List.map_cons, e, slotAt_of hv], RepL.cons rv r⟩
/-- the frame's cells are no frames -/
theorem cells_nf {pins : List (Addr × Obj)} {σ : L2.St} {H : Hp} {s : Shared} (I : Inv X pins σ H s) (hfn : ∀ x, X.fn x = true) {y : Str} {a : Addr} (h : X.env.cells.lookup y = some a) : a ∉ frs X.stack := by
  have ho : a ∉ X.fs := fun z => by
    obtain ⟨_, o, e, _⟩ := I.ok.funs.mem z
    exact absurd (I.ok.cab y a (hfn y) h) (Nat.not_le.mpr (Heap.lt_size e))
  rcases I.ok.stk with e | ⟨e, ef⟩
  · rw [e]; exact ho
  · rw [e]
    unfold frs
    rw [List.filterMap_cons, ef]
    intro z
    rcases List.mem_cons.mp z with rfl | z
    · obtain ⟨v, o, ho, hd⟩ := I.cell y _ h
      obtain ⟨m, ⟨o', es, ep, e', d', _⟩, _⟩ := I.loc
      rw [ho] at e'
      cases e'
      rw [hd] at d'; cases d'
    · exact ho z
open Classical in
/-- what comes of it, whatever the cells hold -/
noncomputable def uni {α β : Type} (f : α → Out β) : Out β := if h : ∃ r, ∀ x, f x = r then Classical.choose h else .fail
theorem uni_eq {α β : Type} {f : α → Out β} {r : Out β} (a : α) (h : ∀ x, f x = r) : uni f = r := by
  have hx : ∃ r, ∀ x, f x = r := ⟨r, h⟩
  unfold uni
  rw [dif_pos hx]
  exact ((Classical.choose_spec hx) a).symm.trans (h a)
theorem uni_at {α β : Type} {f : α → Out β} (a : α) (h : uni f ≠ .fail) : uni f = f a := by
  unfold uni at h ⊢
  by_cases hx : ∃ r, ∀ x, f x = r
  · rw [dif_pos hx]; exact ((Classical.choose_spec hx) a).symm
  · rw [dif_neg hx] at h; exact absurd rfl h
/-! ### made -/
def tabsOf (K : PySem.W.Frag) : Store → List NTab
  | [] => []
  | .tab p nm :: S => ((He.cT K p).2, nm) :: tabsOf K S
  | _ :: S => tabsOf K S
theorem tabsOf_mem {K : PySem.W.Frag} : ∀ {S : Store} {q : NTab}, q ∈ tabsOf K S ↔ ∃ (k : Nat) (p : Str × Option Str), S[k]? = some (Cell.tab p q.2) ∧ q.1 = (He.cT K p).2
  | [], q => by
    constructor
    · intro h; cases h
    · rintro ⟨k, p, h, _⟩; simp at h
  | c :: S, q => by
    have ih := tabsOf_mem (K := K) (S := S) (q := q)
    have step : (∃ (k : Nat) (p : Str × Option Str), S[k]? = some (Cell.tab p q.2) ∧ q.1 = (He.cT K p).2) → ∃ (k : Nat) (p : Str × Option Str), (c :: S)[k]? = some (Cell.tab p q.2) ∧ q.1 = (He.cT K p).2 := fun ⟨k, p, h⟩ => ⟨k + 1, p, h⟩
    have back : (∃ (k : Nat) (p : Str × Option Str), (c :: S)[k]? = some (Cell.tab p q.2) ∧ q.1 = (He.cT K p).2) → (∃ p, c = .tab p q.2 ∧ q.1 = (He.cT K p).2) ∨ ∃ (k : Nat) (p : Str × Option Str), S[k]? = some (Cell.tab p q.2) ∧ q.1 = (He.cT K p).2 := fun ⟨k, p, h, e⟩ => by
      cases k with
      | zero => exact .inl ⟨p, Option.some.inj h, e⟩
      | succ k => exact .inr ⟨k, p, h, e⟩
    cases c with
    | tab p nm =>
      show q ∈ ((He.cT K p).2, nm) :: tabsOf K S ↔ _
      rw [List.mem_cons, ih]
      constructor
      · rintro (rfl | h)
        · exact ⟨0, p, rfl, rfl⟩
        · exact step h
      · intro h
        rcases back h with ⟨p', e, e2⟩ | h
        · cases e; exact .inl (Prod.ext e2 rfl)
        · exact .inr h
    | _ =>
      show q ∈ tabsOf K S ↔ _
      rw [ih]
      constructor
      · exact step
      · intro h
        rcases back h with ⟨p', e, _⟩ | h
        · cases e
        · exact h
theorem tabs_of {K : PySem.W.Frag} {mg : Str → Option Value} {μ : List Addr} {S : Store} {H : Hp} (R : Rel K mg μ S H) : TabsN (tabsOf K S) H := fun q hq => by
  obtain ⟨k, p, h, e⟩ := tabsOf_mem.mp hq
  obtain ⟨a, _, c⟩ := R.get h
  obtain ⟨ea, t⟩ := cellOk_tab.mp c
  rw [e, ← ea]
  exact t
theorem tabs_one {K : PySem.W.Frag} {mg : Str → Option Value} {μ : List Addr} {S : Store} {H : Hp} (R : Rel K mg μ S H) {p p' : Str × Option Str} {nm nm' : Nat → Nat → Str} {k k' : Nat} (h : S[k]? = some (.tab p nm)) (h' : S[k']? = some (.tab p' nm')) (ep : (He.cT K p').2 = (He.cT K p).2) : nm' = nm := by
  obtain ⟨a, ha, c⟩ := R.get h
  obtain ⟨a', ha', c'⟩ := R.get h'
  obtain ⟨e1, _⟩ := cellOk_tab.mp c
  obtain ⟨e2, _⟩ := cellOk_tab.mp c'
  obtain ⟨l1, q1⟩ := List.getElem?_eq_some_iff.mp ha
  obtain ⟨l2, q2⟩ := List.getElem?_eq_some_iff.mp ha'
  have : k = k' := (List.getElem_inj R.nd).mp (q1.trans ((e1.trans (ep.symm.trans e2.symm)).trans q2.symm))
  subst this
  rw [h] at h'
  cases h'; rfl
/-- a function was made: the relation stands -/
theorem rel_made {K : PySem.W.Frag} {mg : Str → Option Value} {μ : List Addr} {S : Store} {H H1 : Hp} (R : Rel K mg μ S H) (x : ExtN H H1) (b : ∀ a, H1 a = none → H a = none) (T : TabsN (tabsOf K S) H1) : Step K mg μ H μ S H1 := by
  have k : Keep μ H H1 := fun a o h _ => ⟨fun z => absurd ((b a z).symm.trans h) (fun z => nomatch z), fun nt => x a o h nt⟩
  refine ⟨[], by simp, ⟨R.nd, R.len, fun n a c h1 h2 => ?_⟩, k, fun _ h => nomatch h⟩
  have cc := R.cell n a c h1 h2
  rcases c.pln_or with hc | ⟨P, nm, rfl⟩
  · obtain ⟨C, dx, vs, q1, q2, q3, q4⟩ := (cellOk_iff hc).mp cc
    exact (cellOk_iff hc).mpr ⟨C, dx, vs, q1, x _ _ q2 Cell.ho_nt, q3, q4.keep R k⟩
  · obtain ⟨ea, _⟩ := cellOk_tab.mp cc
    exact cellOk_tab.mpr ⟨ea, T (a, nm) (tabsOf_mem.mpr ⟨n, P, h2, ea⟩)⟩
/-- a def that may be called, handed a function, with room for k calls within one another -/
structure CalH (P : Program) (w : World) (K : PySem.W.Frag) (mg : Str → Option Value) (base : Heap) (x : Str) (n : Nat) (Φ : List Env → Heap → Hp → Clo → Prop) (f : Clo → Fn) (k : Nat) : Prop where
  ex : ∃ (a : Addr) (fd : FuncData) (ps : List Str), mg x = some (.ref a) ∧ PySem.W.keepIn K (.ref a) = true ∧ Binds K fd ps [] ∧ FnH P w K mg base (L2N.CX P w) k a fd ps (spH K mg n Φ f)
theorem CalH.ok {x : Str} {n : Nat} {Φ : List Env → Heap → Hp → Clo → Prop} {f : Clo → Fn} {k : Nat} (c : CalH X.prog X.w X.K X.mg X.base x n Φ f k) (hr : Rm k X.A) : CallH X x n Φ f :=
  let ⟨a, fd, ps, h1, h2, h3, h4⟩ := c.ex
  ⟨⟨a, fd, ps, k, h1, h2, h3, hr, h4⟩⟩
end Ev
set_option maxHeartbeats 2000000
/-! Ev55: the law's end where defs make functions: their tables stand in the first store. -/
namespace Ev
open PySem PySem.Spec PyProof.Rows L2 NdefX LamX

/-- the state at the law's call: the script may be known, and the empty tables -/
structure AtT (P : Program) (w : World) (H : Hp) (s : Shared) (a : Addr) (ts : List Addr) : Prop where
  ok : HOk P w H s.heap
  one : ∀ b, H b ≠ none → b = a ∨ b ∈ ts
  only : ∀ b, b ∉ ts → H b = none ∨ ∃ o xs, H b = some (.frz o (.lst xs))
  tab : ∀ b ∈ ts, H b = some (.tbl #[])
theorem runs_lawT {P : Program} {w : World} {K : PySem.W.Frag} {mg mb : Str → Option Value} {CX : CXT} {k : Nat} {fa a : Addr} {fd : FuncData} {x : Str} {sp : Sp} {s₁ : Shared} {arr : Array Value} {H : Hp} {cs : List (Addr × Addr)}
    (KX : K.In s₁.heap) (hns : s₁.heap.Ns mainGlobals mg) (hb : s₁.heap.Ns builtinsNs mb) (hbb : ∀ y : Str, y ≠ "__name__" → mb y = bootBuiltins y) (hlim : s₁.heap.NoLimit) (hg : s₁.gens = #[])
    (hT : ∀ p ∈ cs, s₁.heap.get? p.2 = some { cls := .none, data := .fields #[] }) (nT : ∀ p ∈ cs, K.lookup p.2 = none) (hC : ∀ p ∈ cs, PySem.W.codeHdIn K p.1 p.2 = true)
    (hbm : ∃ (bm : Addr) (ob : Obj), mg "__builtins__" = some (.ref bm) ∧ bm ≠ builtinsNs ∧ s₁.heap.get? bm = some ob ∧ ob.cls = .type "module" ∧ ob.dict = some builtinsNs ∧ ob.data = .plain)
    (ha : s₁.heap.get? a = some { cls := .type "list", data := .seq arr }) (t : AtT P w H s₁ a (cs.map (·.2))) (hK : H a ≠ none → K.lookup a = none) (hr : Rm k callerA)
    (F : ∀ base : Heap, K.In base → base.Ns mainGlobals mg → (∀ p ∈ cs, TabB base mg p.1 p.2) → FnG P w K mg base CX k fa fd [x] sp) (hbind : ∀ (s : Shared) (u : Value), BindsTo s fd ⟨[u], []⟩ [(x, u)])
    (hsp : sp [.ref a] H (fun v _ => v = .bl true) fun _ _ _ => False) (hCX : ∀ e s', CX [] H s₁ (fun _ _ _ => False) e s' → False) :
    codeAny (model P w) callerA (.call (.ref fa) ⟨[.ref a], []⟩) (fun r s' => r = .ok (.ret (.bool true)) ∧ OldK s₁.heap s'.heap ∧ s'.os = s₁.os ∧ AllBare s'.gens) s₁ := by
  have tabAt : ∀ b ∈ cs.map (·.2), s₁.heap.get? b = some { cls := .none, data := .fields #[] } := fun b hb => by
    obtain ⟨p, hp, rfl⟩ := List.mem_map.mp hb
    exact hT p hp
  -- what is neither the script nor a table is not known
  have off : ∀ {b : Addr} {o : Obj}, s₁.heap.get? b = some o → (∀ vs n, o.data ≠ .seq vs n) → (∀ vs, o.data ≠ .fields vs) → H b = none := fun {b o} e n1 n2 => by
    apply Classical.byContradiction
    intro n
    rcases t.one b n with rfl | hm
    · rw [ha] at e; cases e; exact n1 _ _ rfl
    · rw [tabAt b hm] at e; cases e; exact n2 _ rfl
  have ns' : ∀ {b : Addr} {m : Str → Option Value}, s₁.heap.Ns b m → (hidT s₁.heap H).Ns b m := by
    rintro b m ⟨o, es, ep, e, d, r⟩
    exact ⟨o, es, ep, hidT_get e (off e (fun vs n z => by rw [d] at z; cases z) (fun vs z => by rw [d] at z; cases z)), d, r⟩
  have KB : K.In (hidT s₁.heap H) := by
    intro b o e
    refine hidT_get (KX b o e) (Classical.byContradiction fun n => ?_)
    rcases t.one b n with rfl | hm
    · rw [hK n] at e; cases e
    · obtain ⟨p, hp, rfl⟩ := List.mem_map.mp hm
      rw [nT p hp] at e; cases e
  obtain ⟨mc, l1, l2⟩ := hlim
  have e0 : Env0 P w K mg (hidT s₁.heap H) callerA [] s₁ H :=
    { frames := rfl, mod := ⟨KB, ns' hns, ⟨mb, ns' hb, hbb⟩, mc, ns' l1, l2⟩, bs := fun _ _ e => of_hidT e, bsz := Nat.le_of_eq (hidT_size _ _), funs := trivial, frf := fun b z => absurd (show b ∈ ([] : List Addr) from z) (by simp), hok := t.ok, bare := .of_eq hg }
  have TB : ∀ p ∈ cs, TabB (hidT s₁.heap H) mg p.1 p.2 := fun p hp => by
    refine tabB_of_K KB (hC p hp) ?_ fun z => ?_
    · obtain ⟨bm, ob, b1, b2, b3, b4, b5, b6⟩ := hbm
      have nP : bm ≠ p.2 := fun z => by
        rw [z, hT p hp] at b3; cases b3; cases b6
      have nG : bm ≠ mainGlobals := fun z => by
        obtain ⟨o, es, ep, e, d, _⟩ := hns
        rw [z, e] at b3; cases b3; rw [d] at b6; cases b6
      exact ⟨bm, ob, b1, b2, nG, nP, hidT_get b3 (off b3 (fun vs n z => by rw [b6] at z; cases z) (fun vs z => by rw [b6] at z; cases z)), b4, b5, b6⟩
    · obtain ⟨o, es, ep, e, d, _⟩ := hns
      rw [z, hT p hp] at e
      cases e
      cases d
  have run := (F _ KB (ns' hns) TB).run _ _ _ _ ⟨[.ref a], []⟩ [.ref a] [V.ref a] _ _ hr e0 (hbind s₁ (.ref a)) (.cons rfl .nil) hsp
  refine codeAny_mono run fun r s' z => ?_
  rcases r with e | fl
  · exact (hCX e s' z).elim
  cases fl with
  | ret u =>
    obtain ⟨v, H', os, bare, un, ok', rv, rfl⟩ := z
    have eu : u = Value.bool true := rv
    have same : ∀ b o, b ∉ cs.map (·.2) → s₁.heap.get? b = some o → s'.heap.get? b = some o := fun b o nb e => by
      rcases t.only b nb with n | ⟨ob, xs, y⟩
      · exact un.keep b o e n (fun z => absurd (show b ∈ ([] : List Addr) from z) (by simp)) (by simp)
      · have g1 := (t.ok b _ y).1
        have g2 := (ok' b _ (un.frzs b ob _ y)).1
        rw [e] at g1
        obtain rfl := Option.some.inj g1
        exact g2
    have grow : ∀ p ∈ cs, ∃ more : Array Value, s'.heap.get? p.2 = some { cls := .none, data := .fields more } := fun p hp => by
      obtain ⟨more, z⟩ := un.tbls p.2 #[] (t.tab p.2 (List.mem_map.mpr ⟨p, hp, rfl⟩))
      exact ⟨_, ok' p.2 _ z⟩
    refine ⟨by rw [eu], ⟨fun b o e => ?_, fun b o e => ?_⟩, os, bare⟩
    · by_cases hm : b ∈ cs.map (·.2)
      · obtain ⟨p, hp, rfl⟩ := List.mem_map.mp hm
        obtain ⟨more, g⟩ := grow p hp
        have e2 := e
        rw [hT p hp] at e2
        cases e2
        refine .inr (.inl ⟨((PySem.W.codeHd_of_K KX (hC p hp)).tab (hT p hp)).isCodeTable, rfl, #[], more, rfl, ?_⟩)
        rw [Array.empty_append]; exact g
      · exact .inl (same b o hm e)
    · by_cases hm : b ∈ cs.map (·.2)
      · obtain ⟨p, hp, rfl⟩ := List.mem_map.mp hm
        obtain ⟨more, g⟩ := grow p hp
        exact ⟨_, g⟩
      · exact ⟨o, same b o hm e⟩
  | _ => exact False.elim z
theorem law_callT {P : Program} {w : World} {K : PySem.W.Frag} {mg mb : Str → Option Value} {CX : CXT} {k : Nat} {fa a : Addr} {fd : FuncData} {x : Str} {sp : Sp} {s₁ : Shared} {vs : List Value} {ns : List Int} {cs : List (Addr × Addr)}
    (KX : K.In s₁.heap) (hns : s₁.heap.Ns mainGlobals mg) (hb : s₁.heap.Ns builtinsNs mb) (hbb : ∀ y : Str, y ≠ "__name__" → mb y = bootBuiltins y) (hlim : s₁.heap.NoLimit) (hg : s₁.gens = #[])
    (hT : ∀ p ∈ cs, s₁.heap.get? p.2 = some { cls := .none, data := .fields #[] }) (nT : ∀ p ∈ cs, K.lookup p.2 = none) (hC : ∀ p ∈ cs, PySem.W.codeHdIn K p.1 p.2 = true)
    (hbm : ∃ (bm : Addr) (ob : Obj), mg "__builtins__" = some (.ref bm) ∧ bm ≠ builtinsNs ∧ s₁.heap.get? bm = some ob ∧ ob.cls = .type "module" ∧ ob.dict = some builtinsNs ∧ ob.data = .plain)
    (ha : s₁.heap.get? a = some { cls := .type "list", data := .seq vs.toArray }) (hi : IntsAre vs ns) (hl : ns.length ≤ sizeLine) (hr : Rm k callerA)
    (F : ∀ base : Heap, K.In base → base.Ns mainGlobals mg → (∀ p ∈ cs, TabB base mg p.1 p.2) → FnG P w K mg base CX k fa fd [x] sp) (hbind : ∀ (s : Shared) (u : Value), BindsTo s fd ⟨[u], []⟩ [(x, u)])
    (hsp : ∀ H : Hp, (∀ p ∈ cs, H p.2 = some (.tbl #[])) → SqF K H a (ns.map V.int) → sp [.ref a] H (fun v _ => v = .bl true) fun _ _ _ => False)
    (hCX : ∀ H e s', CX [] H s₁ (fun _ _ _ => False) e s' → False) :
    codeAny (model P w) callerA (.call (.ref fa) ⟨[.ref a], []⟩) (fun r s' => r = .ok (.ret (.bool true)) ∧ OldK s₁.heap s'.heap ∧ s'.os = s₁.os ∧ AllBare s'.gens) s₁ := by
  have rv := vals_ints hi
  have na : a ∉ cs.map (·.2) := fun z => by
    obtain ⟨p, hp, e⟩ := List.mem_map.mp z
    have := hT p hp
    rw [e, ha] at this
    cases this
  cases hk : K.lookup a with
  | some o =>
    have e := KX a o hk
    rw [ha] at e
    obtain rfl := Option.some.inj e
    let H : Hp := fun b => if b ∈ cs.map (·.2) then some (.tbl #[]) else none
    have ht : ∀ b ∈ cs.map (·.2), H b = some (.tbl #[]) := fun b hb => if_pos hb
    have hn : ∀ b, b ∉ cs.map (·.2) → H b = none := fun b hb => if_neg hb
    refine runs_lawT KX hns hb hbb hlim hg hT nT hC hbm ha (H := H) ⟨fun b u z => ?_, fun b z => .inr (Classical.byContradiction fun n => z (hn b n)), fun b n => .inl (hn b n), ht⟩ (fun z => absurd (hn a na) z) hr F hbind
      (hsp _ (fun p hp => ht _ (List.mem_map.mpr ⟨p, hp, rfl⟩)) (.inr ⟨_, vs.toArray, _, hk, rfl, rfl, rfl, by rw [List.size_toArray, hi.length]; exact hl, by simpa using rv⟩)) (hCX _)
    by_cases hm : b ∈ cs.map (·.2)
    · rw [ht b hm] at z
      cases z
      obtain ⟨p, hp, rfl⟩ := List.mem_map.mp hm
      exact hT p hp
    · rw [hn b hm] at z; cases z
  | none =>
    let H : Hp := fun b => if b = a then some (.frz { cls := .type "list", data := .seq vs.toArray } (.lst (ns.map V.int))) else if b ∈ cs.map (·.2) then some (.tbl #[]) else none
    have at_ : H a = some (.frz { cls := .type "list", data := .seq vs.toArray } (.lst (ns.map V.int))) := if_pos rfl
    have ht : ∀ b ∈ cs.map (·.2), H b = some (.tbl #[]) := fun b hb => (if_neg (show ¬ b = a from fun z => na (by rw [← z]; exact hb))).trans (if_pos hb)
    have hn : ∀ b, b ≠ a → b ∉ cs.map (·.2) → H b = none := fun b n1 n2 => (if_neg n1).trans (if_neg n2)
    refine runs_lawT KX hns hb hbb hlim hg hT nT hC hbm ha (H := H) ⟨fun b u z => ?_, fun b z => ?_, fun b n => ?_, ht⟩ (fun _ => hk) hr F hbind
      (hsp _ (fun p hp => ht _ (List.mem_map.mpr ⟨p, hp, rfl⟩)) (.inl ⟨_, at_⟩)) (hCX _)
    · by_cases e : b = a
      · subst e
        rw [at_] at z
        obtain rfl := Option.some.inj z
        exact ⟨ha, by simpa using hl, vs, _, rv, ha⟩
      · by_cases hm : b ∈ cs.map (·.2)
        · rw [ht b hm] at z
          cases z
          obtain ⟨p, hp, rfl⟩ := List.mem_map.mp hm
          exact hT p hp
        · rw [hn b e hm] at z; cases z
    · apply Classical.byContradiction
      intro n
      simp only [not_or] at n
      exact z (hn b n.1 n.2)
    · by_cases e : b = a
      · subst e; exact .inr ⟨_, _, at_⟩
      · exact .inl (hn b e n)
/-! ### what the law is asked -/
abbrev TabK := (Str × Option Str) × (Nat → Nat → Str)
def TabK.cell (p : TabK) : Cell := .tab p.1 p.2
def spLawT (K : PySem.W.Frag) (T : List TabK) : Sp := fun vs H Q _ => ∃ (a : Addr) (ns : List Int), vs = [.ref a] ∧ SqF K H a (ns.map V.int) ∧ (∀ p ∈ T, H (He.cT K p.1).2 = some (.tbl #[])) ∧ ns.length ≤ 63 ∧ (∀ z ∈ ns, Builtin.Int.intBits z ≤ 1048576) ∧ ∀ H', Q (.bl true) H'
/-- at every script it tells True, run from the tables -/
def GoodT (T : List TabK) (f : Fn) : Prop := ∀ ns : List Int, ns.length ≤ 63 → (∀ z ∈ ns, Builtin.Int.intBits z ≤ 1048576) → ∃ S, f [.fro (ns.map D.int)] (T.map TabK.cell) = .ok (.bl true) S
theorem rel_tabs {K : PySem.W.Frag} {mg : Str → Option Value} {H : Hp} {T : List TabK} (nd : (T.map fun p => (He.cT K p.1).2).Nodup) (h : ∀ p ∈ T, H (He.cT K p.1).2 = some (.tbl #[])) : Rel K mg (T.map fun p => (He.cT K p.1).2) (T.map TabK.cell) H := by
  refine ⟨nd, by simp, fun n a c h1 h2 => ?_⟩
  rw [List.getElem?_map] at h1 h2
  cases q : T[n]? with
  | none => rw [q] at h1; cases h1
  | some p =>
    rw [q] at h1 h2
    cases h1; cases h2
    exact cellOk_tab.mpr ⟨rfl, TabN.nil (h p (List.mem_of_getElem? q))⟩
theorem law_okT {P : Program} {w : World} {K : PySem.W.Frag} {mg : Str → Option Value} {base : Heap} {CX : CXT} {k : Nat} {fa : Addr} {fd : FuncData} {ps : List Str} {f : Fn} {T : List TabK} (h : GoodT T f) (nd : (T.map fun p => (He.cT K p.1).2).Nodup) (F : FnG P w K mg base CX k fa fd ps (spOf K mg 1 f)) : FnG P w K mg base CX k fa fd ps (spLawT K T) := by
  refine F.imp fun vs H Q E ⟨a, ns, e, hs, hO, hl, hb, q⟩ => ?_
  subst e
  obtain ⟨S, e⟩ := h ns hl hb
  refine ⟨_, _, [.fro (ns.map .int)], rel_tabs nd hO, ?_, rfl, ?_⟩
  · refine ResL.cons (ResOk.plain ?_) .nil ?_
    · unfold Rep
      exact ⟨a, _, rfl, hs, rep_ints ns⟩
    · simp [newA]
  · rw [e]
    intro v μ' H' st x
    have x : Rep K μ' H' (.bl true) v := x
    unfold Rep at x
    subst x
    exact q H'
theorem walk_xT {l : PySem.W.OpenLaw} {q : Program} {loose : List Str} {XP : (Str → Option Value) → Heap → Prop} {YP : World → Heap → Prop} {d : DefRec} {x : Str} {k : Nat} {T : List TabK} (hn : l.most = some 63) (hdf : d.params.defaults = []) (hr : Rm k callerA)
    (F : ∀ (w : World) (mg : Str → Option Value) (fa : Addr) (h : Heap), YP w h → h.Ns mainGlobals mg → mg d.name = some (.ref fa) →
      ∃ (K : PySem.W.Frag) (fd : FuncData), K.In h ∧ (∀ p ∈ T, PySem.W.codeHdIn K (He.cT K p.1).1 (He.cT K p.1).2 = true ∧ K.lookup (He.cT K p.1).2 = none ∧ h.get? (He.cT K p.1).2 = some { cls := .none, data := .fields #[] }) ∧ (∀ (s : Shared) (u : Value), BindsTo s fd ⟨[u], []⟩ [(x, u)]) ∧
        ∀ base : Heap, K.In base → base.Ns mainGlobals mg → (∀ p ∈ T, TabB base mg (He.cT K p.1).1 (He.cT K p.1).2) → FnG l.prog w K mg base (L2N.CX l.prog w) k fa fd [x] (spLawT K T)) :
    PySem.W.WalkO q loose XP YP l.row.toRowW d [] (fun f vs => PySem.call f vs) := by
  refine Att.attach_callB (n := 63) hn hdf fun w s₀ s₁ mg mb fa o pm cd doc a vs ns G Y ho hd hcd hmg hobj hints hlen hbits hg => ?_
  obtain ⟨K, fd, KX, hT, hb, hF⟩ := F w mg fa _ Y G.T.g hmg
  refine law_callT (cs := T.map fun p => He.cT K p.1) KX G.T.g G.T.b G.T.builtins G.T.nolimit hg (fun p hp => ?_) (fun p hp => ?_) (fun p hp => ?_) G.T.bmain hobj hints (Nat.le_trans hlen (by decide)) hr (fun base KB nb TB => hF base KB nb fun p hp => TB _ (List.mem_map.mpr ⟨p, hp, rfl⟩)) hb
    (fun H hO hS => ⟨a, ns, rfl, hS, fun p hp => hO _ (List.mem_map.mpr ⟨p, hp, rfl⟩), hlen, hbits, fun _ => rfl⟩) fun H e s' z => cx_false z
  all_goals
    obtain ⟨t, ht, rfl⟩ := List.mem_map.mp hp
    obtain ⟨h1, h2, h3⟩ := hT t ht
    assumption
/-- a def that makes functions keeps the promise of its body -/
theorem fn_okT {P : Program} {w : World} {K : PySem.W.Frag} {mg : Str → Option Value} {base : Heap} {x qual : Str} {st : Stmt} {f : Addr} {fd : FuncData} {N ps : List Str} {k : Nat} {body : MS} {p : He.Defn} (F : Fun K x qual st f fd) (hp : f = He.fAd K p) (Sc : FnScope N ps (defScope st))
    (hbody : ∀ (A : Around) (outer : List Env) (s : Shared) (H : Hp) (E : XK), Rm k (A.deeper (envOfC qual (defScope st) s.heap.objs.size f (.ref (He.cT K p).1))) →
      EvSs (cxOf (L2N.CX P w) P w K mg base N qual (defScope st) f (.ref (He.cT K p).1) A outer s H E) (fun cls dx _ H => E cls dx H) (defBody st) body) : FnG P w K mg base (L2N.CX P w) (k + 1) f fd ps (spOf K mg ps.length (runBody body N.length)) := by
  obtain ⟨oc, od, kV, doc, pm, an, cdv, ct, osl, rfl, lk, hcd⟩ := F.ex
  obtain ⟨c, rfl⟩ := He.codeIn_ref hcd
  have e1 : (He.cT K p).1 = c := He.codeOf_eq (by rw [← hp]; exact lk) rfl
  rw [e1] at hbody
  refine fnG_of lk hcd Sc (fun vs H Q E h => ?_) (fun A outer s H vs Q E hr h => ?_)
  · obtain ⟨μ, S, ds, _, hl, hn, _⟩ := h
    rw [← hl.length]; exact hn
  · exact ⟨_, hbody A outer s H E hr, body_good rfl rfl h⟩
end Ev
set_option maxHeartbeats 2000000
/-! Ev56: lambdas handed to a def. -/
namespace Ev
open PySem PySem.Spec PyProof.Rows L2 NdefX LamX

/-! ### made -/
section
variable {X : Cx} {pins : List (Addr × Obj)} {σ : L2.St} {H : Hp} {s : Shared}
theorem inv_fnL {F : NF} {e : Expr} {o : Obj} {t' : Nat} {pm ctv : Value} (I : Inv X pins σ H s) (ho : o = { cls := .type "function", data := .func (PySem.W.kla_fn F.name F.qual F.params e F.scope F.cl pm (.ref F.c) ctv) }) :
    Inv X pins σ (upd H s.heap.objs.size (FnLO s.heap.objs.size F e)) { s with heap := s.heap.push o, toks := t' } := by
  subst ho
  refine I.laid (a := s.heap.objs.size) (fun b u e => Heap.get?_push_of_some _ e) (Nat.le_refl _) ?_
  have e2 : (s.heap.push ({ cls := .type "function", data := .func (PySem.W.kla_fn F.name F.qual F.params e F.scope F.cl pm (.ref F.c) ctv) } : Obj)).get? s.heap.objs.size = some ({ cls := .type "function", data := .func (PySem.W.kla_fn F.name F.qual F.params e F.scope F.cl pm (.ref F.c) ctv) } : Obj) := Heap.get?_push_size _ rfl
  exact ⟨⟨_, _, pm, ctv, e2⟩, ⟨_, e2⟩, fun h1 h2 ⟨od, sl, p, t, z⟩ st => ⟨od, sl, p, t, st _ z⟩⟩
/-- the words of a lambda -/
def lamF (qual : Str) (params : Arguments) (scope : Scope) (cl : List (Str × Addr)) (c : Addr) : NF := ⟨"<lambda>", qual, params, [], scope, cl, c⟩
/-- a lambda is made: its code object is new, or found in the table -/
theorem lam_makeN {T : List NTab} {nm : Nat → Nat → Str} {c P : Addr} {params : Arguments} {body : Expr} {scope : Scope} {pos : Pos} {E : Value → Shared → Prop} {Q : Value → Shared → Prop} (I : Inv X pins σ H s) (TB : TabB X.base X.mg c P) (hcode : X.env.code = .ref c)
    (hm : (P, nm) ∈ T) (hn : nm pos.line pos.col = X.env.qual ++ "<lambda>") (hu : ∀ p ∈ T, p.1 = P → p.2 = nm) (hT : TabsN T H) (hdef : defaultsOf params X.env = ([], [])) (hfree : ∀ y ∈ scope.names, y.2 = .free → ∃ c, X.env.cells.lookup y.1 = some c)
    (h : ∀ (f c' : Addr) (H1 : Hp) (s' : Shared), Inv X pins σ H1 s' → ExtN H H1 → (∀ b, H1 b = Option.none → H b = Option.none) → TabsN T H1 → H f = none → H1 f = some (FnLO f (lamF (X.env.qual ++ "<lambda>") params scope (cloFrom X.env.cells scope.names []) c') body) → H1 c' = some (CodeO c' (X.env.qual ++ "<lambda>")) → Q (.ref f) s') :
    wpAny (model X.prog X.w) X.A (eval (.Lambda params body scope pos) X.env) Q E s := by
  obtain ⟨ps, hP, ht, ha⟩ := (show TabN H P nm from hT _ hm)
  refine PySem.W.kla_eval hdef ?_
  have bP : s.heap.BuiltinsAt X.mg P := TB.bm.keeps I.bk
  have hP' : s.heap.get? P = some { cls := .none, data := .fields ps } := I.hok P _ hP
  cases hc : codeAmong pos ps.toList with
  | none =>
    refine PySem.W.kla_makeFunction (mg := X.mg) (c := c) (P := P) (ps := ps) (closure_ok hfree) I.ok.glob (I.mod.glob.keeps I.bk) hcode (TB.code.keeps I.bk) hP' ht hc TB.gP bP fun c' ctv h' tk hx hge hlt hrec htb => ?_
    obtain ⟨c2, oc, vs, t, e2, hoc, hd, hv⟩ := hrec
    cases e2
    have nC : H c' = none := I.hok.fresh hge
    have I1 := inv_table (t' := tk) (more := #[rawInt pos.line, rawInt pos.col, .ref c']) (h' := h') I hP (fun b o hb e => hx b o hb e) htb hge ⟨oc, vs, t, hoc, hd, hv⟩
    have hE : ExtN H (upd (upd H P (.tbl (ps ++ #[rawInt pos.line, rawInt pos.col, .ref c']))) c' (CodeO c' (X.env.qual ++ "<lambda>"))) := fun b o e n => by
      rw [upd_ne (ne_of_none e nC), upd_ne (fun z => n ps (Option.some.inj (e.symm.trans (by rw [z]; exact hP))))]
      exact e
    have eL : (ps ++ #[rawInt pos.line, rawInt pos.col, .ref c']).toList = ps.toList ++ [rawInt pos.line, rawInt pos.col, .ref c'] := by simp
    have T1 : TabsN T (upd (upd H P (.tbl (ps ++ #[rawInt pos.line, rawInt pos.col, .ref c']))) c' (CodeO c' (X.env.qual ++ "<lambda>"))) := fun p hp => by
      by_cases hb : p.1 = P
      · rw [hu p hp hb, hb]
        refine ⟨_, by rw [upd_ne (ne_of_none hP nC), upd_same], by rw [eL]; exact PySem.TriplesOk_snoc _ _ _ _ ht, fun p' cv hcv => ?_⟩
        rw [eL] at hcv
        rcases among_app2 _ ht hcv with z | ⟨z, z1, z2⟩
        · obtain ⟨c0, e1, e2⟩ := ha p' cv z
          exact ⟨c0, e1, hE _ _ e2 codeO_ne⟩
        · refine ⟨c', z, ?_⟩
          rw [← z1, ← z2, hn]
          exact upd_same
      · obtain ⟨ps', a1, a2, a3⟩ := hT p hp
        refine ⟨ps', by rw [upd_ne (ne_of_none a1 nC), upd_ne hb]; exact a1, a2, fun p' cv hcv => ?_⟩
        obtain ⟨c0, e1, e2⟩ := a3 p' cv hcv
        exact ⟨c0, e1, hE _ _ e2 codeO_ne⟩
    have nF := I1.hok.fresh (Nat.le_refl _)
    have I2 := inv_fnL (F := lamF (X.env.qual ++ "<lambda>") params scope (cloFrom X.env.cells scope.names []) c') (e := body) (t' := tk) (pm := (X.mg "__name__").getD .none) (ctv := ctv) I1 rfl
    refine h h'.objs.size c' _ _ I2 (fun b o e n => ?_) (fun b e => upd_none (upd_none (upd_none e))) (T1.ext fun b o e => ?_) (I.hok.fresh (Nat.le_trans hge (Nat.le_of_lt hlt))) upd_same ?_
    · have e1 := hE b o e n
      exact (upd_ne (ne_of_none e1 nF)).trans e1
    · exact (upd_ne (ne_of_none e nF)).trans e
    · exact (upd_ne (Nat.ne_of_lt hlt)).trans upd_same
  | some cv =>
    obtain ⟨c', e, hco⟩ := ha pos cv hc
    subst e
    rw [hn] at hco
    refine PySem.W.kla_makeFunctionHit (mg := X.mg) (c := c) (P := P) (ps := ps) (closure_ok hfree) I.ok.glob (I.mod.glob.keeps I.bk) hcode (TB.code.keeps I.bk) hP' ht hc bP fun ctv h' tk hx hsz => ?_
    have I1 : Inv X pins σ H { s with heap := h', toks := tk } := I.kept hx
    have nF : H h'.objs.size = none := I1.hok.fresh (Nat.le_refl _)
    have I2 := inv_fnL (F := lamF (X.env.qual ++ "<lambda>") params scope (cloFrom X.env.cells scope.names []) c') (e := body) (t' := tk) (pm := (X.mg "__name__").getD .none) (ctv := ctv) I1 rfl
    refine h h'.objs.size c' _ _ I2 (fun b o e n => ?_) (fun b e => upd_none e) (hT.ext fun b o e => ?_) nF upd_same ?_
    · exact (upd_ne (ne_of_none e nF)).trans e
    · exact (upd_ne (ne_of_none e nF)).trans e
    · exact (upd_ne (ne_of_none hco nF)).trans hco
end
/-! ### its promise -/
section
variable {CX : CXT} {P : Program} {w : World} {K : PySem.W.Frag} {mg : Str → Option Value} {base : Heap} {N ps fr : List Str} {F : NF} {f : Addr} {k j : Nat} {sp sp' : List (Option V) → Sp} {e : Expr}
theorem fnL_of (Sc : NScope N ps fr F.scope) (bind : ∀ (pm ctv : Value) (us : List Value), us.length = ps.length → bindArgs (PySem.W.kla_fn F.name F.qual F.params e F.scope F.cl pm (.ref F.c) ctv) ⟨us, []⟩ = pure (ps.zip us)) (len : ∀ ws vs H Q E, sp ws vs H Q E → vs.length = ps.length)
    (body : ∀ (A : Around) (outer : List Env) (s : Shared) (H : Hp) (vs : List V) (ws : List (Option V)) (Q : VK) (E : XK), Rm k (A.deeper (envF F f s.heap.objs.size)) → ws.length = fr.length → sp ws vs H Q E →
      ∃ t, PE (ncx CX P w K mg base N F f A outer s H E) e t ∧ t (startF N vs ws) H Q) : FnN P w K mg base CX (k + 1) f F (some e) ps fr sp := by
  refine ⟨len, fun A outer s H us vs ws Q E r e0 e1 e2 ce rv q => ?_⟩
  have lv : vs.length = ps.length := len _ _ _ _ _ q
  have old : ∀ b o, base.get? b = some o → s.heap.get? b = some o := fun b o e => (e0.bs b o e).1
  obtain ⟨⟨od, sl, pm, ctv, at_⟩, _, _⟩ := e0.hok f _ e1
  obtain ⟨c0, oc, vs0, t0, ec, h1, h2, h3⟩ := codeO_at e0.hok e2
  refine PySem.W.kla_callFunE r.rm.depth at_ rfl Sc.co Sc.gen rfl ⟨c0, oc, vs0, t0, ec, h1, h2, h3⟩ ?_
  rw [bind pm ctv us (rv.length ▸ lv)]
  refine wpAny_pure (wpAny_newFunctionEnv Sc.nocell (fun ⟨n, _⟩ hn => Sc.par n (List.of_mem_zip hn).1) (fun h1 ns sb => ?_) Sc.kind)
  have kp : ∀ b o, s.heap.get? b = some o → h1.get? b = some o := fun b o e => sb.extBut b o (Nat.ne_of_lt (Heap.lt_size e)) (Heap.get?_push_of_some _ e)
  refine ⟨(e0.mod.nolimit.keeps old).fresh _ sb, ?_⟩
  show codeAny _ _ (.expr e (envF F f s.heap.objs.size)) _ _
  obtain ⟨t, ht, hq⟩ := body A outer s H vs ws Q E (r.deeper _) ce.len q
  have I := inv_startN (CX := CX) (E := E) (f := f) (tk := s.toks + (ps.zip us).length) Sc r.rm.hd e0 lv rv ce ns kp
  refine PySem.W.kla_codeExpr (wpAny_mono (ht.run [] _ _ H Q I hq) (fun u s' hs => ?_) fun e s' hs => hs)
  obtain ⟨v, H', J, r2, q2⟩ := hs
  exact ⟨v, H', J.os, J.bare, J.base, J.hok, r2, q2⟩
end
section
variable {K : PySem.W.Frag} {mg : Str → Option Value}
/-- a lambda keeps the promise of its expression -/
theorem fnL_ok {P : Program} {w : World} {base : Heap} {f : Addr} {F : NF} {N ps fr : List Str} {k : Nat} {e : Expr} {m : M D} {ws0 : List V} (Sc : NScope N ps fr F.scope)
    (bind : ∀ (pm ctv : Value) (us : List Value), us.length = ps.length → bindArgs (PySem.W.kla_fn F.name F.qual F.params e F.scope F.cl pm (.ref F.c) ctv) ⟨us, []⟩ = pure (ps.zip us))
    (hbody : ∀ (A : Around) (outer : List Env) (s : Shared) (H : Hp) (E : XK), Rm k (A.deeper (envF F f s.heap.objs.size)) →
      EvE (ncx (L2N.CX P w) P w K mg base N F f A outer s H E) (fun cls dx _ H => E cls dx H) e m) : FnN P w K mg base (L2N.CX P w) (k + 1) f F (some e) ps fr (spC K mg ps.length ws0 (runC (sRet m) N.length)) := by
  refine fnL_of Sc bind (fun ws vs H Q E h => ?_) fun A outer s H vs ws Q E hr hw h => ?_
  · obtain ⟨_, μ, S, ds, cs, _, hl, hn, _⟩ := h
    rw [← hl.length]; exact hn
  · have he := hbody A outer s H E hr
    refine ⟨_, he.pe, ?_⟩
    obtain ⟨μ, S, ρ, R, En, G⟩ := body_goodC (X := ncx (L2N.CX P w) P w K mg base N F f A outer s H E) rfl rfl h
    unfold sRet at G
    refine ⟨μ, S, ρ, R, En, ?_, fun d S' v μ' H' e1 st x => ?_⟩
    · cases q : m ρ S with
      | ok d S' => trivial
      | exc c ks ds S' =>
        rw [q] at G
        exact fun cls dx μ' H' st x => G cls dx _ μ' H' st (En.step R st) x
      | fail => rw [q] at G; exact G
    · rw [e1] at G
      exact G v μ' H' st x
end
section
variable {K : PySem.W.Frag} {mg : Str → Option Value}
theorem fnL_ok2 {P : Program} {w : World} {base : Heap} {f c : Addr} {q : Str} {params : Arguments} {scope : Scope} {cl : List (Str × Addr)} {N ps fr : List Str} {k : Nat} {e : Expr} {m : M D} {ws0 : List V} (Sc : NScope N ps fr scope)
    (bind : ∀ (pm ctv : Value) (us : List Value), us.length = ps.length → bindArgs (PySem.W.kla_fn "<lambda>" q params e scope cl pm (.ref c) ctv) ⟨us, []⟩ = pure (ps.zip us))
    (hbody : ∀ (A : Around) (outer : List Env) (s : Shared) (H : Hp) (E : XK), Rm k (A.deeper (envF (lamF q params scope cl c) f s.heap.objs.size)) → L2N.Takes (ncx (L2N.CX P w) P w K mg base N (lamF q params scope cl c) f A outer s H E) (fun cls dx _ H => E cls dx H) →
      PassesOwn (model P w) (ncx (L2N.CX P w) P w K mg base N (lamF q params scope cl c) f A outer s H E).A (ncx (L2N.CX P w) P w K mg base N (lamF q params scope cl c) f A outer s H E).env (ncx (L2N.CX P w) P w K mg base N (lamF q params scope cl c) f A outer s H E).xe →
      EvE (ncx (L2N.CX P w) P w K mg base N (lamF q params scope cl c) f A outer s H E) (fun cls dx _ H => E cls dx H) e m) : FnN P w K mg base (L2N.CX P w) (k + 1) f (lamF q params scope cl c) (some e) ps fr (spC K mg ps.length ws0 (runC (sRet m) N.length)) :=
  fnL_ok Sc bind fun A outer s H E hr => hbody A outer s H E hr (L2N.takes_of rfl rfl rfl rfl) (passes_of rfl)
end
/-! ### handed over -/
/-- arguments, one behind the other -/
inductive EvC (X : Cx) (W : WX) : List Expr → M (List D) → Prop
  | nil : EvC X W [] mNil
  | cons {e : Expr} {es : List Expr} {m : M D} {r : M (List D)} (he : EvE X W e m) (hr : EvC X W es r) (hs : notStar e = true) : EvC X W (e :: es) (mCons m r)
variable {X : Cx} {W : WX}
/-- .. and a last one, whatever it is -/
theorem EvC.then {es : List Expr} {m : M (List D)} (h : EvC X W es m) {l : Expr} (hl : notStar l = true) : ∀ (pos : Pos) (pins : List (Addr × Obj)) (s : Shared) (σ : L2.St) (H : Hp) (μ : List Addr) (S : Store) (ρ : Env') (QQ : List Value → Shared → Prop), Inv X pins σ H s → Rel X.K X.mg μ S H → EnvOk X.K μ H ρ σ → Fine X.K X.mg W μ H σ (m ρ S) →
    (∀ us s' ds S' vs μ' H', m ρ S = .ok ds S' → Inv X pins σ H' s' → Vals vs us → Step X.K X.mg μ H μ' S' H' → ResL X.K X.mg μ' H H' ds vs → wpAny (model X.prog X.w) X.A (eval l X.env) (fun u s'' => QQ (us ++ [u]) s'') X.xe s') →
    wpAny (model X.prog X.w) X.A (spliced (backTo pos (starEach (es ++ [l]) X.env))) QQ X.xe s := by
  induction h with
  | nil =>
    intro pos pins s σ H μ S ρ QQ I R E F q
    rw [List.nil_append, star_of hl]
    show wpAny _ _ (spliced ((false, eval l X.env) :: backTo pos (starEach [] X.env))) _ _ s
    refine Calls.spliced_cons (thn (q [] s [] S [] μ H rfl I .nil (Step.refl R) .nil) fun u s' hq => Calls.spliced_nil hq)
  | @cons e es m r he hr hs ih =>
    intro pos pins s σ H μ S ρ QQ I R E F q
    rw [List.cons_append, star_of hs]
    show wpAny _ _ (spliced ((false, eval e X.env) :: backTo pos (starEach (es ++ [l]) X.env))) _ _ s
    unfold mCons at F
    refine Calls.spliced_cons (thn (he.run pins s σ H μ S ρ I R E F.left) fun u s1 ⟨d, S1, v, μ1, H1, e1, I1, r1, st1, x1⟩ => ?_)
    have F1 := Fine.right R st1 F e1
    have R1 := st1.rel
    refine ih pos pins s1 σ H1 μ1 S1 ρ (fun us s' => QQ (u :: us) s') I1 R1 (E.step R st1) F1.left fun us s2 ds S2 vs μ2 H2 e2 I2 r2 st2 x2 => ?_
    refine q (u :: us) s2 (d :: ds) S2 (v :: vs) μ2 H2 (by unfold mCons; rw [e1, bind_ok, e2]; rfl) I2 (.cons r1 r2) (st1.trans R st2) (.cons (x1.step R1 st2) (x2.back R st1) fun c a hc hv ha => ?_)
    obtain ⟨_, _, q⟩ := x2.new a ha
    unfold ResOk at x1
    rw [hc] at x1
    obtain ⟨b, eb, hb, _⟩ := x1
    rw [hv] at eb
    cases eb
    exact absurd q hb.wr.ne_none
theorem noStars_app {es : List Expr} {l : Expr} (h : noStars es = true) (hl : notStar l = true) : noStars (es ++ [l]) = true := by
  induction es with
  | nil => show (notStar l && true) = true; rw [hl]; rfl
  | cons e es ih =>
    have h : (notStar e && noStars es) = true := h
    rw [Bool.and_eq_true] at h
    show (notStar e && noStars (es ++ [l])) = true
    rw [h.1, ih h.2]; rfl
open Classical in
noncomputable def mCallL (n : Nat) (f : Clo → Fn) (tb : Str × Option Str) (nm : Nat → Nat → Str) (js : List Nat) (m : M (List D)) : M D := fun ρ S => (m ρ S).bind fun ds S1 => match js.mapM (slotD ρ) with
  | some cs => if ds.length + 1 = n ∧ ∃ k : Nat, S1[k]? = some (Cell.tab tb nm) then uni fun c : Clo => f c (ds ++ [.fn c cs]) S1 else .fail
  | none => .fail
theorem ResL.snoc {K : PySem.W.Frag} {mg : Str → Option Value} {μ : List Addr} {H0 H : Hp} {d : D} {v : V} (x : Rep K μ H d v) : ∀ {ds : List D} {vs : List V}, ResL K mg μ H0 H ds vs → ResL K mg μ H0 H (ds ++ [d]) (vs ++ [v]) ∧ newA (ds ++ [d]) (vs ++ [v]) = newA ds vs := by
  have hd : d.cell? = none := by
    cases d <;> first | rfl | (unfold Rep at x; exact x.elim)
  intro ds
  induction ds with
  | nil =>
    intro vs r
    cases r
    refine ⟨ResL.cons (ResOk.plain x) .nil (fun c a hc => ?_), ?_⟩
    · rw [hd] at hc; cases hc
    · show newA [d] [v] = newA [] []
      unfold newA
      rw [hd]
      rfl
  | cons e es ih =>
    intro vs r
    cases r with
    | cons xe r n =>
      rename_i u us
      obtain ⟨r2, e2⟩ := ih r
      refine ⟨ResL.cons xe r2 (fun c a h1 h2 h3 => n c a h1 h2 (e2 ▸ h3)), ?_⟩
      show newA (e :: (es ++ [d])) (u :: (us ++ [v])) = newA (e :: es) (u :: us)
      unfold newA
      split <;> rw [e2]
theorem ev_callL {n n' j : Nat} {x : Str} {e0 : Expr} {es es0 : List Expr} {p pos lpos : Pos} {f : Clo → Fn} {g : List D → Fn} {tb : Str × Option Str} {nm : Nat → Nat → Str} {params : Arguments} {body : Expr} {scope : Scope} {js : List Nat} {ps fr : List Str} {m : M (List D)}
    (ees : e0 :: es0 = es ++ [Expr.Lambda params body scope lpos]) (tk : L2N.Takes X W) (hg : Gl X x) (hc : CallH X x n (CloOk X.prog X.w X.K X.mg X.base j n' g) f) (hfn : ∀ x, X.fn x = true) (hps : ps.length = n')
    (hF : ∀ (f c' : Addr) (ws : List V), FnN X.prog X.w X.K X.mg X.base (L2N.CX X.prog X.w) j f (lamF (X.env.qual ++ "<lambda>") params scope (cloFrom X.env.cells scope.names []) c') (some body) ps fr (spC X.K X.mg n' ws g))
    (cp : X.Ok → Caps X (cloFrom X.env.cells scope.names []) fr js) (TB : TabB X.base X.mg (He.cT X.K tb).1 (He.cT X.K tb).2) (hcode : X.env.code = .ref (He.cT X.K tb).1) (hn : nm lpos.line lpos.col = X.env.qual ++ "<lambda>") (hdef : defaultsOf params X.env = ([], []))
    (hfree : ∀ y ∈ scope.names, y.2 = .free → X.env.scope.names.lookup y.1 = some .cell ∨ X.env.scope.names.lookup y.1 = some .free)
    (ha : EvC X W es m) (hs : noStars es = true) (hdb : (x == ("__debug__" : Str)) = false) :
    EvE X W (.Call (.Name x p) (e0 :: es0) [] pos) (mCallL n f tb nm js m) := by
  obtain ⟨a, fd, psf, k, hm, hk, hb, hr, Fk⟩ := hc.ex
  refine ⟨fun pins s σ H μ S ρ I R E F => ?_⟩
  unfold mCallL at F ⊢
  have hs2 := noStars_app (l := Expr.Lambda params body scope lpos) hs rfl
  have run := ha.then (l := Expr.Lambda params body scope lpos) rfl pos pins s σ H μ S ρ
  rw [← ees] at run hs2
  have hs2 : (notStar e0 && noStars es0) = true := hs2
  rw [Bool.and_eq_true] at hs2
  refine wpAny_Call_Name_kw (ld_glob I hg hm ?_ hdb)
  refine PySem.W.callWith_K (h₀ := X.base) I.ok.mod.kin hk (run _ I R E F.left fun us s1 ds S1 vs μ1 H1 e1 I1 r1 st1 x1 => ?_) (star_of hs2.1) (noStars_any hs2.2)
  have F1 := Fine.right R st1 F e1
  have F0 := F
  rw [e1, bind_ok] at F0
  cases hj : js.mapM (slotD ρ) with
  | none => rw [hj] at F1; exact F1.elim
  | some cs =>
  rw [hj] at F1 F0
  dsimp only at F1 F0
  by_cases hnn : ds.length + 1 = n ∧ ∃ k : Nat, S1[k]? = some (Cell.tab tb nm)
  case neg => rw [if_neg hnn] at F1; exact F1.elim
  rw [if_pos hnn] at F1 F0
  obtain ⟨kt, hkt⟩ := hnn.2
  have hf : ∀ y ∈ scope.names, y.2 = .free → ∃ c, X.env.cells.lookup y.1 = some c := fun y hy e => (hfree y hy e).elim (fun z => I.ok.has _ (.inl z)) fun z => I.ok.has _ (.inr z)
  refine lam_makeN I1 TB hcode (T := tabsOf X.K S1) (tabsOf_mem.mpr ⟨kt, tb, hkt, rfl⟩) hn (fun q' hq' e => ?_) (tabs_of st1.rel) hdef hf fun f0 c0 H2 s2 I2 eN bk T2 nf hf0 hc0 => ?_
  · obtain ⟨k', p', h', e'⟩ := tabsOf_mem.mp hq'
    exact tabs_one st1.rel hkt h' (e'.symm.trans e)
  have st2 := rel_made st1.rel eN bk T2
  have st12 := st1.trans R st2
  obtain ⟨ws, hw, rc⟩ := slots_rep (E.step R st12) hj
  have x2 := x1.step st1.rel st2
  have rf : Rep X.K μ1 H2 (.fn ⟨f0, lamF (X.env.qual ++ "<lambda>") params scope (cloFrom X.env.cells scope.names []) c0, ws, some body⟩ cs) (.ref f0) := by
    unfold Rep
    exact ⟨rfl, hf0, hc0, rc⟩
  obtain ⟨x3, en⟩ := x2.snoc rf
  have hu : uni (fun c : Clo => f c (ds ++ [.fn c cs]) S1) ≠ .fail := fun z => by rw [z] at F1; exact F1
  have hat := uni_at (⟨f0, lamF (X.env.qual ++ "<lambda>") params scope (cloFrom X.env.cells scope.names []) c0, ws, some body⟩ : Clo) hu
  rw [hat] at F1 F0
  have hx : ∀ a ∈ newA (ds ++ [.fn ⟨f0, lamF (X.env.qual ++ "<lambda>") params scope (cloFrom X.env.cells scope.names []) c0, ws, some body⟩ cs]) (vs ++ [.ref f0]), H a = none := fun a ha => by
    rw [en] at ha
    exact (x1.new a ha).2.2
  have cells : CellsAt (cloFrom X.env.cells scope.names []) fr (ws.map some) s2.heap H2 := by
    rw [← hw]; exact cells_of I2 (cp I2.ok)
  have r3 : Vals (vs ++ [V.ref f0]) (us ++ [Value.ref f0]) := r1.snoc (show L2.RelV (V.ref f0) (Value.ref f0) from rfl)
  refine ⟨I2.kIn, ?_⟩
  show wpAny _ _ (call (.ref a) (us ++ [.ref f0])) _ _ s2
  refine thn (run_fnH (E := WE W σ) (Q := fun v H' => ∃ d S' μ', f ⟨f0, lamF (X.env.qual ++ "<lambda>") params scope (cloFrom X.env.cells scope.names []) c0, ws, some body⟩ (ds ++ [.fn ⟨f0, lamF (X.env.qual ++ "<lambda>") params scope (cloFrom X.env.cells scope.names []) c0, ws, some body⟩ cs]) S1 = .ok d S' ∧ Step X.K X.mg μ H μ' S' H' ∧ ResOk X.K X.mg μ' H H' d v) Fk hr hb (L2N.passAt tk σ) I2 r3 ?_) fun u s' ⟨v, H', I', r, d, S', μ', e, s2, x⟩ => ⟨d, S', v, μ', H', ?_, I', r, s2, x⟩
  · refine ⟨⟨f0, lamF (X.env.qual ++ "<lambda>") params scope (cloFrom X.env.cells scope.names []) c0, ws, some body⟩, ⟨⟨ps, fr, hps, cells, hF f0 c0 ws⟩, fun y b e => cells_nf I2 hfn ((cp I2.ok).sub y b e)⟩, μ1, S1, _, st2.rel, x3.any, by rw [List.length_append]; exact hnn.1, ?_⟩
    cases hff : f ⟨f0, lamF (X.env.qual ++ "<lambda>") params scope (cloFrom X.env.cells scope.names []) c0, ws, some body⟩ (ds ++ [.fn ⟨f0, lamF (X.env.qual ++ "<lambda>") params scope (cloFrom X.env.cells scope.names []) c0, ws, some body⟩ cs]) S1 with
    | ok d S' => exact fun v μ' H' s2 x => ⟨d, S', μ', rfl, s2.step R st12 hx, x.res R st12 hx⟩
    | exc c ks es S' =>
      rw [hff] at F0
      exact fun cls dx μ' H' s2 x => F0 cls dx μ' H' (s2.step R st12 hx) x
    | fail => rw [hff] at F1; exact F1
  · rw [e1, bind_ok]
    dsimp only
    rw [if_pos hnn, hat]
    exact e
end Ev
set_option maxHeartbeats 2000000
namespace Ev.K45
open PySem PySem.Spec PyProof.Rows L2 Ev
def x_LetterError : List (Str × Bool) := [("NoClaim", true)]
def is_CantKnow : List (Str × Bool) := [("NoClaim", false)]
def is_NoClaim : List (Str × Bool) := [("NoClaim", true)]
def is_NoLine : List (Str × Bool) := [("NoClaim", false)]
def is_NoMove : List (Str × Bool) := [("NoClaim", false)]
def is_NoProgram : List (Str × Bool) := [("NoClaim", false)]
def is_NoRenaming : List (Str × Bool) := [("NoClaim", false)]
def is_NoStep : List (Str × Bool) := [("NoClaim", false)]
def is_NoTalk : List (Str × Bool) := [("NoClaim", false)]
def is_NoText : List (Str × Bool) := [("NoClaim", false)]
def is_ValueError : List (Str × Bool) := [("NoClaim", true)]
noncomputable def m__law_cell_at : MS :=
  (sSeq (sIf (mTru (mBin (cmpD .Lt) (mVar 1) (mBlt (bltD .len) (mCons (mVar 0) mNil))))
  (sRet (mBin idxD (mVar 0) (mVar 1)))
  sNext)
  (sRet (mLit (.int 0))))
noncomputable def f__law_cell_at : Fn := runBody m__law_cell_at 2
noncomputable def m__law_mixed : MS :=
  (sSeq (sAsg (bName 2) (mBin (binD .Mod) (mBin (binD .Mult) (mBin (binD .Add) (mBin (binD .Add) (mBin (binD .Mod) (mVar 0) (mLit (.int 2147483647))) (mBin (binD .Mult) (mLit (.int 7919)) (mVar 1))) (mLit (.int 1))) (mLit (.int 48271))) (mLit (.int 2147483647))))
  (sRet (mBin (binD .Mod) (mBin (binD .Mult) (mVar 2) (mBin (binD .Add) (mBin (binD .FloorDiv) (mVar 2) (mLit (.int 1009))) (mLit (.int 69621)))) (mLit (.int 2147483647)))))
noncomputable def f__law_mixed : Fn := runBody m__law_mixed 3
noncomputable def b__law_draws_1 : MS :=
  (sIf (mAndT (mTru (mBin (cmpD .Eq) (mBin (binD .Mod) (mVar 0) (mLit (.int 2))) (mLit (.int 0)))) (mAndT (mTru (mBin (cmpD .Gt) (mVar 4) (mLit (.int 0)))) (mEndT true)))
  (sSeq (sExpr (mApp (mVar 3) (mBin (binD .Mod) (mVar 4) (mVar 2))))
  (sAsg (bName 4) (mBin (binD .FloorDiv) (mVar 4) (mVar 2))))
  (sSeq (sAsg (bName 6) (mCall 2 f__law_mixed (mCons (mVar 0) (mCons (mVar 5) mNil))))
  (sExpr (mApp (mVar 3) (mBin (binD .Mod) (mBin (binD .Mult) (mVar 6) (mBin (binD .Add) (mBin (binD .FloorDiv) (mVar 6) (mLit (.int 613))) (mLit (.int 40692)))) (mLit (.int 2147483399)))))))
noncomputable def l__law_draws_1 : MS := sFor (bName 5) (mRange1 (mVar 1)) b__law_draws_1
noncomputable def m__law_draws : MS :=
  (sSeq (sAsg (bName 3) (mLst mNil))
  (sSeq (sAsg (bName 4) (mBin (binD .FloorDiv) (mVar 0) (mLit (.int 2))))
  (sSeq l__law_draws_1
  (sRet (mVar 3)))))
noncomputable def f__law_draws : Fn := runBody m__law_draws 7
noncomputable def m__law_bounds : MS :=
  (sSeq (sAsg (bName 3) (mBlt (bltD .sorted) (mCons (mLst (mCons (mBin (binD .Add) (mVar 1) (mBin (binD .Mod) (mBin (binD .FloorDiv) (mVar 0) (mLit (.int 4))) (mBin (binD .Add) (mBin (binD .Sub) (mVar 2) (mVar 1)) (mLit (.int 1))))) (mCons (mBin (binD .Add) (mVar 1) (mBin (binD .Mod) (mBin (binD .FloorDiv) (mVar 0) (mLit (.int 64))) (mBin (binD .Add) (mBin (binD .Sub) (mVar 2) (mVar 1)) (mLit (.int 1))))) mNil))) mNil)))
  (sSeq (sIf (mTru (mBin (cmpD .Eq) (mBin (binD .Mod) (mVar 0) (mLit (.int 16))) (mLit (.int 15))))
  (sAsg (bName 3) (mRev (mVar 3)))
  sNext)
  (sRet (mBin idxD (mLst (mCons (mTup (mCons (mBin idxD (mVar 3) (mLit (.int 0))) (mCons (mBin idxD (mVar 3) (mLit (.int 1))) mNil))) (mCons (mTup (mCons (mBin idxD (mVar 3) (mLit (.int 0))) (mCons (mLit .non) mNil))) (mCons (mTup (mCons (mLit .non) (mCons (mBin idxD (mVar 3) (mLit (.int 1))) mNil))) (mCons (mTup (mCons (mBin idxD (mVar 3) (mLit (.int 0))) (mCons (mBin (binD .Add) (mBin idxD (mVar 3) (mLit (.int 1))) (mLit (.int 1))) mNil))) mNil))))) (mBin (binD .Mod) (mVar 0) (mLit (.int 4)))))))
noncomputable def f__law_bounds : Fn := runBody m__law_bounds 4
noncomputable def m__law_hand_test (self : Fn) : MS :=
  (sSeq (sAsg (bName 2) (mPopAt (mVar 0) (mLit (.int 0))))
  (sSeq (sIf (mAndT (mTru (mBin (cmpD .Gt) (mVar 1) (mLit (.int 0)))) (mAndT (mTru (mBin (cmpD .Eq) (mBin (binD .Mod) (mVar 2) (mLit (.int 3))) (mLit (.int 0)))) (mEndT true)))
  (sSeq (sAsg (bName 3) (mBin idxD (mLst (mCons (mLit (.str "not")) (mCons (mLit (.str "both")) (mCons (mLit (.str "either")) (mCons (mLit (.str "both")) mNil))))) (mBin (binD .Mod) (mBin (binD .FloorDiv) (mVar 2) (mLit (.int 3))) (mLit (.int 4)))))
  (sSeq (sIf (mTru (mBin (cmpD .Eq) (mVar 3) (mLit (.str "not"))))
  (sRet (mTup (mCons (mVar 3) (mCons (mCall 2 self (mCons (mVar 0) (mCons (mBin (binD .Sub) (mVar 1) (mLit (.int 1))) mNil))) mNil))))
  sNext)
  (sRet (mTup (mCons (mVar 3) (mCons (mCall 2 self (mCons (mVar 0) (mCons (mBin (binD .Sub) (mVar 1) (mLit (.int 1))) mNil))) (mCons (mCall 2 self (mCons (mVar 0) (mCons (mBin (binD .Sub) (mVar 1) (mLit (.int 1))) mNil))) mNil)))))))
  sNext)
  (sSeq (sAsg (bTup (bCons (bName 4) (bCons (bName 5) bNil)) 2) (mCall 3 f__law_bounds (mCons (mBin (binD .FloorDiv) (mVar 2) (mLit (.int 18))) (mCons (mNeg (mLit (.int 4))) (mCons (mLit (.int 4)) mNil)))))
  (sSeq (sAsg (bName 6) (mBin (cmpD .Eq) (mBin (binD .Mod) (mBin (binD .FloorDiv) (mVar 2) (mLit (.int 5))) (mLit (.int 3))) (mLit (.int 2))))
  (sSeq (sAsg (bName 7) (mLst (mCons (mTup (mCons (mLit (.str "at")) (mCons (mBin (binD .Mod) (mBin (binD .FloorDiv) (mVar 2) (mLit (.int 18))) (mBin idxD (mLst (mCons (mLit (.int 7)) (mCons (mLit (.int 61)) mNil))) (mBlt (bltD .int) (mCons (mVar 6) mNil)))) mNil))) (mCons (mTup (mCons (mLit (.str "number")) (mCons (mBin (binD .Mod) (mBin (binD .FloorDiv) (mVar 2) (mLit (.int 18))) (mLit (.int 3))) (mCons (mVar 4) (mCons (mVar 5) mNil))))) (mCons (mTup (mCons (mLit (.str "has")) (mCons (mBin (binD .Mod) (mBin (binD .FloorDiv) (mVar 2) (mLit (.int 18))) (mLit (.int 3))) mNil))) mNil)))))
  (sRet (mBin idxD (mBin (binD .Add) (mVar 7) (mLst (mCons (mTup (mCons (mLit (.str "fallen")) mNil)) (mCons (mTup (mCons (mLit (.str "many")) (mCons (mBin (binD .Mod) (mBin (binD .FloorDiv) (mVar 2) (mLit (.int 18))) (mLit (.int 2))) (mCons (mBin (binD .Mod) (mBin (binD .FloorDiv) (mVar 2) (mLit (.int 36))) (mLit (.int 7))) mNil)))) (mCons (mTup (mCons (mLit (.str "bell")) mNil)) mNil))))) (mBin (binD .Mod) (mBin (binD .FloorDiv) (mVar 2) (mLit (.int 3))) (mLit (.int 6))))))))))
noncomputable def f__law_hand_test : Nat → Fn
  | 0 => fun _ _ => .fail
  | k + 1 => runBody (m__law_hand_test (f__law_hand_test k)) 8
noncomputable def m__law_test (self : Fn) : MS :=
  (sSeq (sAsg (bName 3) (mPopAt (mVar 0) (mLit (.int 0))))
  (sSeq (sIf (mAndT (mTru (mBin (cmpD .Gt) (mVar 2) (mLit (.int 0)))) (mAndT (mTru (mBin (cmpD .Eq) (mBin (binD .Mod) (mVar 3) (mLit (.int 3))) (mLit (.int 0)))) (mEndT true)))
  (sSeq (sAsg (bName 4) (mBin idxD (mLst (mCons (mLit (.str "not")) (mCons (mLit (.str "both")) (mCons (mLit (.str "either")) (mCons (mLit (.str "either")) mNil))))) (mBin (binD .Mod) (mBin (binD .FloorDiv) (mVar 3) (mLit (.int 3))) (mLit (.int 4)))))
  (sSeq (sIf (mTru (mBin (cmpD .Eq) (mVar 4) (mLit (.str "not"))))
  (sRet (mTup (mCons (mVar 4) (mCons (mCall 3 self (mCons (mVar 0) (mCons (mVar 1) (mCons (mBin (binD .Sub) (mVar 2) (mLit (.int 1))) mNil)))) mNil))))
  sNext)
  (sRet (mTup (mCons (mVar 4) (mCons (mCall 3 self (mCons (mVar 0) (mCons (mVar 1) (mCons (mBin (binD .Sub) (mVar 2) (mLit (.int 1))) mNil)))) (mCons (mCall 3 self (mCons (mVar 0) (mCons (mVar 1) (mCons (mBin (binD .Sub) (mVar 2) (mLit (.int 1))) mNil)))) mNil)))))))
  sNext)
  (sSeq (sAsg (bTup (bCons (bName 5) (bCons (bName 6) bNil)) 2) (mCall 3 f__law_bounds (mCons (mBin (binD .FloorDiv) (mVar 3) (mLit (.int 30))) (mCons (mLit (.int 0)) (mCons (mBin idxD (mLst (mCons (mLit (.int 3)) (mCons (mLit (.int 5)) mNil))) (mBin (binD .Mod) (mBin (binD .FloorDiv) (mVar 3) (mLit (.int 7))) (mLit (.int 2)))) mNil)))))
  (sSeq (sIf (mTru (mBin (cmpD .Eq) (mBin (binD .Mod) (mBin (binD .FloorDiv) (mVar 3) (mLit (.int 3))) (mLit (.int 3))) (mLit (.int 0))))
  (sRet (mTup (mCons (mLit (.str "letters")) (mCons (mBin (binD .Add) (mLit (.int 1)) (mBin (binD .Mod) (mBin (binD .FloorDiv) (mVar 3) (mLit (.int 9))) (mLit (.int 3)))) (mCons (mVar 5) (mCons (mVar 6) mNil))))))
  sNext)
  (sRet (mTup (mCons (mLit (.str "count")) (mCons (mBin (binD .Mod) (mBin (binD .FloorDiv) (mVar 3) (mLit (.int 9))) (mVar 1)) (mCons (mCall 2 (f__law_hand_test 37) (mCons (mVar 0) (mCons (mLit (.int 2)) mNil))) (mCons (mVar 5) (mCons (mVar 6) mNil)))))))))))
noncomputable def f__law_test : Nat → Fn
  | 0 => fun _ _ => .fail
  | k + 1 => runBody (m__law_test (f__law_test k)) 7
noncomputable def m__law_claim : MS :=
  (sSeq (sAsg (bName 2) (mCall 3 f__law_draws (mCons (mBin (binD .FloorDiv) (mVar 0) (mLit (.int 3))) (mCons (mLit (.int 60)) (mCons (mBin (binD .Pow) (mLit (.int 10)) (mLit (.int 6))) mNil)))))
  (sSeq (sAsg (bName 3) (mBin idxD (mLst (mCons (mLit (.str "never")) (mCons (mLit (.str "behind")) (mCons (mLit (.str "comes")) mNil)))) (mBin (binD .Mod) (mVar 0) (mLit (.int 3)))))
  (sSeq (sIf (mTru (mBin (cmpD .Eq) (mVar 3) (mLit (.str "never"))))
  (sRet (mTup (mCons (mVar 3) (mCons (mCall 3 (f__law_test 37) (mCons (mVar 2) (mCons (mVar 1) (mCons (mLit (.int 1)) mNil)))) mNil))))
  sNext)
  (sRet (mTup (mCons (mVar 3) (mCons (mCall 3 (f__law_test 37) (mCons (mVar 2) (mCons (mVar 1) (mCons (mLit (.int 1)) mNil)))) (mCons (mCall 3 (f__law_test 37) (mCons (mVar 2) (mCons (mVar 1) (mCons (mLit (.int 1)) mNil)))) mNil))))))))
noncomputable def f__law_claim : Fn := runBody m__law_claim 4
noncomputable def m_is_told : MS :=
  (sRet (mAndV (mIsi .tuple (mVar 0)) (mAndV (mBin (cmpD .Eq) (mBlt (bltD .len) (mCons (mVar 0) mNil)) (mBin (binD .Add) (mVar 2) (mLit (.int 1)))) (mBin (cmpD .Eq) (mBin idxD (mVar 0) (mLit (.int 0))) (mVar 1)))))
noncomputable def f_is_told : Fn := runBody m_is_told 3
noncomputable def m_is_whole : MS :=
  (sRet (mAndV (mIsi .int (mVar 0)) (mNotV (mIsi .bool (mVar 0)))))
noncomputable def f_is_whole : Fn := runBody m_is_whole 1
noncomputable def m_is_from : MS :=
  (sRet (mAndV (mCall 1 f_is_whole (mCons (mVar 0) mNil)) (mChain (cmpD .LtE) (cmpD .LtE) (mVar 1) (mVar 0) (mVar 2))))
noncomputable def f_is_from : Fn := runBody m_is_from 3
noncomputable def m_is_bound : MS :=
  (sSeq (sIf (mTru (mBin (cmpD .Is) (mVar 0) (mLit .non)))
  (sRet (mLit (.bl true)))
  sNext)
  (sSeq (sIf (mOrT (mNotT (mTru (mCall 1 f_is_whole (mCons (mVar 0) mNil)))) (mOrT (mAndT (mTru (mBin (cmpD .IsNot) (mVar 1) (mLit .non))) (mAndT (mTru (mBin (cmpD .Lt) (mVar 0) (mVar 1))) (mEndT true))) (mEndT false)))
  (sRet (mLit (.bl false)))
  sNext)
  (sRet (mOrV (mBin (cmpD .Is) (mVar 2) (mLit .non)) (mBin (cmpD .LtE) (mVar 0) (mVar 2))))))
noncomputable def f_is_bound : Fn := runBody m_is_bound 3
noncomputable def m_is_box_test : MS :=
  (sSeq (sIf (mTru (mCall 3 f_is_told (mCons (mVar 0) (mCons (mLit (.str "at")) (mCons (mLit (.int 1)) mNil)))))
  (sRet (mCall 3 f_is_from (mCons (mBin idxD (mVar 0) (mLit (.int 1))) (mCons (mLit (.int 0)) (mCons (mLit (.int 60)) mNil)))))
  sNext)
  (sSeq (sIf (mTru (mCall 3 f_is_told (mCons (mVar 0) (mCons (mLit (.str "number")) (mCons (mLit (.int 3)) mNil)))))
  (sRet (mAndV (mCall 3 f_is_from (mCons (mBin idxD (mVar 0) (mLit (.int 1))) (mCons (mLit (.int 0)) (mCons (mLit (.int 2)) mNil)))) (mAndV (mCall 3 f_is_bound (mCons (mBin idxD (mVar 0) (mLit (.int 2))) (mCons (mLit .non) (mCons (mLit .non) mNil)))) (mCall 3 f_is_bound (mCons (mBin idxD (mVar 0) (mLit (.int 3))) (mCons (mLit .non) (mCons (mLit .non) mNil)))))))
  sNext)
  (sSeq (sIf (mTru (mCall 3 f_is_told (mCons (mVar 0) (mCons (mLit (.str "has")) (mCons (mLit (.int 1)) mNil)))))
  (sRet (mCall 3 f_is_from (mCons (mBin idxD (mVar 0) (mLit (.int 1))) (mCons (mLit (.int 0)) (mCons (mLit (.int 2)) mNil)))))
  sNext)
  (sSeq (sIf (mTru (mCall 3 f_is_told (mCons (mVar 0) (mCons (mLit (.str "many")) (mCons (mLit (.int 2)) mNil)))))
  (sRet (mAndV (mCall 3 f_is_from (mCons (mBin idxD (mVar 0) (mLit (.int 1))) (mCons (mLit (.int 0)) (mCons (mLit (.int 1)) mNil)))) (mCall 3 f_is_from (mCons (mBin idxD (mVar 0) (mLit (.int 2))) (mCons (mLit (.int 0)) (mCons (mLit (.int 6)) mNil))))))
  sNext)
  (sRet (mOrV (mCall 3 f_is_told (mCons (mVar 0) (mCons (mLit (.str "bell")) (mCons (mLit (.int 0)) mNil)))) (mCall 3 f_is_told (mCons (mVar 0) (mCons (mLit (.str "fallen")) (mCons (mLit (.int 0)) mNil))))))))))
noncomputable def f_is_box_test : Fn := runBody m_is_box_test 1
noncomputable def m_is_joined (g_ : List D → Fn) (c_ : Clo) : MS :=
  (sSeq (sIf (mTru (mCall 3 f_is_told (mCons (mVar 0) (mCons (mLit (.str "not")) (mCons (mLit (.int 1)) mNil)))))
  (sRet (mCallF 1 1 c_ g_ (mCons (mBin idxD (mVar 0) (mLit (.int 1))) mNil)))
  sNext)
  (sSeq (sIf (mOrT (mTru (mCall 3 f_is_told (mCons (mVar 0) (mCons (mLit (.str "both")) (mCons (mLit (.int 2)) mNil))))) (mOrT (mTru (mCall 3 f_is_told (mCons (mVar 0) (mCons (mLit (.str "either")) (mCons (mLit (.int 2)) mNil))))) (mEndT false)))
  (sRet (mAndV (mCallF 1 1 c_ g_ (mCons (mBin idxD (mVar 0) (mLit (.int 1))) mNil)) (mCallF 1 1 c_ g_ (mCons (mBin idxD (mVar 0) (mLit (.int 2))) mNil))))
  sNext)
  (sRet (mLit (.bl false)))))
noncomputable def f_is_joined (g_ : List D → Fn) (c_ : Clo) : Fn := runBody (m_is_joined g_ c_) 2
noncomputable def g_is_hand_test_lam0 (self : Fn) : List D → Fn := runC (sRet (mCall 1 self (mCons (mVar 0) mNil))) 1
def nm_is_hand_test : Nat → Nat → Str := fun _ _ => "is_hand_test.<locals>.<lambda>"
noncomputable def m_is_hand_test (self : Fn) : MS :=
  (sRet (mOrV (mCall 1 f_is_box_test (mCons (mVar 0) mNil)) (mCallL 2 (f_is_joined (g_is_hand_test_lam0 self)) ("is_hand_test", none) nm_is_hand_test [] (mCons (mVar 0) mNil))))
noncomputable def f_is_hand_test : Nat → Fn
  | 0 => fun _ _ => .fail
  | k + 1 => runBody (m_is_hand_test (f_is_hand_test k)) 1
noncomputable def g_is_test_lam0 (self : Fn) : List D → Fn := runC (sRet (mCall 2 self (mCons (mVar 0) (mCons (mVar 1) mNil)))) 2
def nm_is_test : Nat → Nat → Str := fun _ _ => "is_test.<locals>.<lambda>"
noncomputable def m_is_test (self : Fn) : MS :=
  (sSeq (sIf (mTru (mCall 3 f_is_told (mCons (mVar 0) (mCons (mLit (.str "count")) (mCons (mLit (.int 4)) mNil)))))
  (sSeq (sIf (mOrT (mNotT (mTru (mCall 3 f_is_from (mCons (mBin idxD (mVar 0) (mLit (.int 1))) (mCons (mLit (.int 0)) (mCons (mBin (binD .Sub) (mVar 1) (mLit (.int 1))) mNil)))))) (mOrT (mNotT (mTru (mCall 1 (f_is_hand_test 37) (mCons (mBin idxD (mVar 0) (mLit (.int 2))) mNil)))) (mEndT false)))
  (sRet (mLit (.bl false)))
  sNext)
  (sRet (mAndV (mCall 3 f_is_bound (mCons (mBin idxD (mVar 0) (mLit (.int 3))) (mCons (mLit (.int 0)) (mCons (mLit (.int 6)) mNil)))) (mCall 3 f_is_bound (mCons (mBin idxD (mVar 0) (mLit (.int 4))) (mCons (mLit (.int 0)) (mCons (mLit (.int 6)) mNil)))))))
  sNext)
  (sSeq (sIf (mTru (mCall 3 f_is_told (mCons (mVar 0) (mCons (mLit (.str "letters")) (mCons (mLit (.int 3)) mNil)))))
  (sRet (mAndV (mCall 3 f_is_from (mCons (mBin idxD (mVar 0) (mLit (.int 1))) (mCons (mLit (.int 1)) (mCons (mLit (.int 12)) mNil)))) (mAndV (mCall 3 f_is_bound (mCons (mBin idxD (mVar 0) (mLit (.int 2))) (mCons (mLit (.int 0)) (mCons (mLit .non) mNil)))) (mCall 3 f_is_bound (mCons (mBin idxD (mVar 0) (mLit (.int 3))) (mCons (mLit (.int 0)) (mCons (mLit .non) mNil)))))))
  sNext)
  (sRet (mCallL 2 (f_is_joined (g_is_test_lam0 self)) ("is_test", none) nm_is_test [1] (mCons (mVar 0) mNil)))))
noncomputable def f_is_test : Nat → Fn
  | 0 => fun _ _ => .fail
  | k + 1 => runBody (m_is_test (f_is_test k)) 2
noncomputable def m_look_over_claim : MS :=
  (sSeq (sAsg (bName 2) (mBlt (bltD .len) (mCons (mBin idxD (mVar 0) (mLit (.int 2))) mNil)))
  (sSeq (sAsg (bName 3) (mLit (.bl false)))
  (sSeq (sIf (mTru (mCall 3 f_is_told (mCons (mVar 1) (mCons (mLit (.str "never")) (mCons (mLit (.int 1)) mNil)))))
  (sAsg (bName 3) (mCall 2 (f_is_test 37) (mCons (mBin idxD (mVar 1) (mLit (.int 1))) (mCons (mVar 2) mNil))))
  sNext)
  (sSeq (sIf (mOrT (mTru (mCall 3 f_is_told (mCons (mVar 1) (mCons (mLit (.str "behind")) (mCons (mLit (.int 2)) mNil))))) (mOrT (mTru (mCall 3 f_is_told (mCons (mVar 1) (mCons (mLit (.str "comes")) (mCons (mLit (.int 2)) mNil))))) (mEndT false)))
  (sAsg (bName 3) (mAndV (mCall 2 (f_is_test 37) (mCons (mBin idxD (mVar 1) (mLit (.int 1))) (mCons (mVar 2) mNil))) (mCall 2 (f_is_test 37) (mCons (mBin idxD (mVar 1) (mLit (.int 2))) (mCons (mVar 2) mNil)))))
  sNext)
  (sIf (mNotT (mTru (mVar 3)))
  (sRaise "NoClaim")
  sNext)))))
noncomputable def f_look_over_claim : Fn := runBody m_look_over_claim 4
noncomputable def b__law_turned_1 : MS :=
  (sAsg (bName 0) (mTup (mCons (mLit (.str "not")) (mCons (mVar 0) mNil))))
noncomputable def l__law_turned_1 : MS := sFor (bName 2) (mRange1 (mVar 1)) b__law_turned_1
noncomputable def m__law_turned : MS :=
  (sSeq l__law_turned_1
  (sRet (mVar 0)))
noncomputable def f__law_turned : Fn := runBody m__law_turned 3
noncomputable def m__law_odd : MS :=
  (sSeq (sIf (mTru (mIsi .tuple (mVar 0)))
  (sSeq (sAsg (bName 2) (mLst (mCons (mBlt (bltD .list) (mCons (mVar 0) mNil)) (mCons (mBin (binD .Add) (mVar 0) (mTup (mCons (mLit (.int 1)) mNil))) (mCons (mCut (mVar 0) mNoPart (mPart (mNeg (mLit (.int 1))))) (mCons (mCut (mVar 0) mNoPart (mPart (mLit (.int 1)))) (mCons (mTup mNil) (mCons (mLit .non) (mCons (mCut (mVar 0) (mPart (mLit (.int 1))) mNoPart) (mCons (mBin (binD .Add) (mVar 0) (mCut (mVar 0) (mPart (mNeg (mLit (.int 1)))) mNoPart)) mNil))))))))))
  (sRet (mBin idxD (mVar 2) (mBin (binD .Mod) (mVar 1) (mLit (.int 8))))))
  sNext)
  (sSeq (sIf (mTru (mIsi .str (mVar 0)))
  (sRet (mBin idxD (mLst (mCons (mLit (.str "never")) (mCons (mLit (.str "letters")) (mCons (mLit (.str "count")) (mCons (mLit (.str "not")) (mCons (mLit (.str "bell")) (mCons (mLit (.str "fallen")) (mCons (mLit (.str "")) (mCons (mLit (.int 1)) (mCons (mLit (.str "Both")) (mCons (mLit (.str "has")) mNil))))))))))) (mBin (binD .Mod) (mVar 1) (mLit (.int 10)))))
  sNext)
  (sRet (mBin idxD (mLst (mCons (mLit (.int 61)) (mCons (mNeg (mLit (.int 1))) (mCons (mLit (.bl true)) (mCons (mLit .non) (mCons (mLit (.str "1")) (mCons (mTup (mCons (mLit (.int 0)) mNil)) (mCons (mLit (.int 7)) (mCons (mLit (.int 13)) (mCons (mLit (.int 0)) (mCons (mLit (.int 2)) mNil))))))))))) (mBin (binD .Mod) (mVar 1) (mLit (.int 10)))))))
noncomputable def f__law_odd : Fn := runBody m__law_odd 3
noncomputable def m__law_spoiled (self : Fn) : MS :=
  (sSeq (sAsg (bName 3) (mPopAt (mVar 1) (mLit (.int 0))))
  (sSeq (sIf (mAndT (mTru (mBin (cmpD .Gt) (mVar 2) (mLit (.int 0)))) (mAndT (mTru (mIsi .tuple (mVar 0))) (mAndT (mTru (mBin (cmpD .NotEq) (mVar 0) (mTup mNil))) (mAndT (mTru (mBin (cmpD .Gt) (mBin (binD .Mod) (mVar 3) (mLit (.int 4))) (mLit (.int 0)))) (mEndT true)))))
  (sSeq (sAsg (bName 4) (mBin (binD .Mod) (mBin (binD .FloorDiv) (mVar 3) (mLit (.int 4))) (mBlt (bltD .len) (mCons (mVar 0) mNil))))
  (sRet (mBin (binD .Add) (mBin (binD .Add) (mCut (mVar 0) mNoPart (mPart (mVar 4))) (mTup (mCons (mCall 3 self (mCons (mBin idxD (mVar 0) (mVar 4)) (mCons (mVar 1) (mCons (mBin (binD .Sub) (mVar 2) (mLit (.int 1))) mNil)))) mNil))) (mCut (mVar 0) (mPart (mBin (binD .Add) (mVar 4) (mLit (.int 1)))) mNoPart))))
  sNext)
  (sRet (mCall 2 f__law_odd (mCons (mVar 0) (mCons (mBin (binD .FloorDiv) (mVar 3) (mLit (.int 4))) mNil))))))
noncomputable def f__law_spoiled : Nat → Fn
  | 0 => fun _ _ => .fail
  | k + 1 => runBody (m__law_spoiled (f__law_spoiled k)) 5
noncomputable def m__law_form : MS :=
  (sSeq (sIf (mOrT (mNotT (mTru (mIsi .tuple (mVar 0)))) (mOrT (mTru (mBin (cmpD .Eq) (mVar 0) (mTup mNil))) (mOrT (mNotT (mTru (mIsi .str (mBin idxD (mVar 0) (mLit (.int 0)))))) (mOrT (mTru (mBin (dinD true) (mBin idxD (mVar 0) (mLit (.int 0))) (mVar 1))) (mEndT false)))))
  (sRet (mLit (.bl false)))
  sNext)
  (sRet (mBin (cmpD .Eq) (mBlt (bltD .len) (mCons (mVar 0) mNil)) (mBin dgetD (mVar 1) (mBin idxD (mVar 0) (mLit (.int 0)))))))
noncomputable def f__law_form : Fn := runBody m__law_form 2
noncomputable def m__law_whole : MS :=
  (sSeq (sIf (mOrT (mNotT (mTru (mIsi .int (mVar 0)))) (mOrT (mTru (mIsi .bool (mVar 0))) (mEndT false)))
  (sRet (mLit (.bl false)))
  sNext)
  (sRet (mAndV (mOrV (mBin (cmpD .Is) (mVar 1) (mLit .non)) (mBin (cmpD .GtE) (mVar 0) (mVar 1))) (mOrV (mBin (cmpD .Is) (mVar 2) (mLit .non)) (mBin (cmpD .LtE) (mVar 0) (mVar 2))))))
noncomputable def f__law_whole : Fn := runBody m__law_whole 3
noncomputable def m__law_bound : MS :=
  (sRet (mOrV (mBin (cmpD .Is) (mVar 0) (mLit .non)) (mCall 3 f__law_whole (mCons (mVar 0) (mCons (mVar 1) (mCons (mVar 2) mNil))))))
noncomputable def f__law_bound : Fn := runBody m__law_bound 3
noncomputable def q__law_hand_1 (self : Fn) : M D := mComp [2] (bName 2) (mIter (mCut (mVar 0) (mPart (mLit (.int 1))) mNoPart)) (mNotT (mTru (mCall 1 self (mCons (mVar 2) mNil)))) (mVar 2)
noncomputable def m__law_hand (self : Fn) : MS :=
  (sSeq (sAsg (bName 1) (mDict [.inr "at", .inr "number", .inr "has", .inr "many", .inr "bell", .inr "fallen", .inr "not", .inr "both", .inr "either"] (mDCons (mLit (.int 2)) (mDCons (mLit (.int 4)) (mDCons (mLit (.int 2)) (mDCons (mLit (.int 3)) (mDCons (mLit (.int 1)) (mDCons (mLit (.int 1)) (mDCons (mLit (.int 2)) (mDCons (mLit (.int 3)) (mDCons (mLit (.int 3)) mDNil)))))))))))
  (sSeq (sIf (mNotT (mTru (mCall 2 f__law_form (mCons (mVar 0) (mCons (mVar 1) mNil)))))
  (sRet (mLit (.bl false)))
  sNext)
  (sSeq (sIf (mTru (mBin (cmpD .In) (mBin idxD (mVar 0) (mLit (.int 0))) (mTup (mCons (mLit (.str "not")) (mCons (mLit (.str "both")) (mCons (mLit (.str "either")) mNil))))))
  (sRet (mBin (cmpD .Eq) (q__law_hand_1 self) (mLst mNil)))
  sNext)
  (sSeq (sIf (mTru (mBin (cmpD .Eq) (mBin idxD (mVar 0) (mLit (.int 0))) (mLit (.str "at"))))
  (sRet (mCall 3 f__law_whole (mCons (mBin idxD (mVar 0) (mLit (.int 1))) (mCons (mLit (.int 0)) (mCons (mLit (.int 60)) mNil)))))
  sNext)
  (sSeq (sIf (mTru (mBin (cmpD .Eq) (mBin idxD (mVar 0) (mLit (.int 0))) (mLit (.str "number"))))
  (sRet (mAndV (mCall 3 f__law_whole (mCons (mBin idxD (mVar 0) (mLit (.int 1))) (mCons (mLit (.int 0)) (mCons (mLit (.int 2)) mNil)))) (mAndV (mCall 3 f__law_bound (mCons (mBin idxD (mVar 0) (mLit (.int 2))) (mCons (mLit .non) (mCons (mLit .non) mNil)))) (mCall 3 f__law_bound (mCons (mBin idxD (mVar 0) (mLit (.int 3))) (mCons (mLit .non) (mCons (mLit .non) mNil)))))))
  sNext)
  (sSeq (sIf (mTru (mBin (cmpD .Eq) (mBin idxD (mVar 0) (mLit (.int 0))) (mLit (.str "has"))))
  (sRet (mCall 3 f__law_whole (mCons (mBin idxD (mVar 0) (mLit (.int 1))) (mCons (mLit (.int 0)) (mCons (mLit (.int 2)) mNil)))))
  sNext)
  (sRet (mOrV (mBin (cmpD .NotEq) (mBin idxD (mVar 0) (mLit (.int 0))) (mLit (.str "many"))) (mAndV (mCall 3 f__law_whole (mCons (mBin idxD (mVar 0) (mLit (.int 1))) (mCons (mLit (.int 0)) (mCons (mLit (.int 1)) mNil)))) (mCall 3 f__law_whole (mCons (mBin idxD (mVar 0) (mLit (.int 2))) (mCons (mLit (.int 0)) (mCons (mLit (.int 6)) mNil)))))))))))))
noncomputable def f__law_hand : Nat → Fn
  | 0 => fun _ _ => .fail
  | k + 1 => runBody (m__law_hand (f__law_hand k)) 3
noncomputable def q__law_is_test_1 (self : Fn) : M D := mComp [3] (bName 3) (mIter (mCut (mVar 0) (mPart (mLit (.int 1))) mNoPart)) (mNotT (mTru (mCall 2 self (mCons (mVar 3) (mCons (mVar 1) mNil))))) (mVar 3)
noncomputable def m__law_is_test (self : Fn) : MS :=
  (sSeq (sIf (mNotT (mTru (mCall 2 f__law_form (mCons (mVar 0) (mCons (mDict [.inr "count", .inr "letters", .inr "not", .inr "both", .inr "either"] (mDCons (mLit (.int 5)) (mDCons (mLit (.int 4)) (mDCons (mLit (.int 2)) (mDCons (mLit (.int 3)) (mDCons (mLit (.int 3)) mDNil)))))) mNil)))))
  (sRet (mLit (.bl false)))
  sNext)
  (sSeq (sIf (mTru (mBin (cmpD .Eq) (mBin idxD (mVar 0) (mLit (.int 0))) (mLit (.str "letters"))))
  (sRet (mAndV (mCall 3 f__law_whole (mCons (mBin idxD (mVar 0) (mLit (.int 1))) (mCons (mLit (.int 1)) (mCons (mLit (.int 12)) mNil)))) (mAndV (mCall 3 f__law_bound (mCons (mBin idxD (mVar 0) (mLit (.int 2))) (mCons (mLit (.int 0)) (mCons (mLit .non) mNil)))) (mCall 3 f__law_bound (mCons (mBin idxD (mVar 0) (mLit (.int 3))) (mCons (mLit (.int 0)) (mCons (mLit .non) mNil)))))))
  sNext)
  (sSeq (sIf (mTru (mBin (cmpD .Eq) (mBin idxD (mVar 0) (mLit (.int 0))) (mLit (.str "count"))))
  (sSeq (sAsg (bName 2) (mAndV (mCall 3 f__law_whole (mCons (mBin idxD (mVar 0) (mLit (.int 1))) (mCons (mLit (.int 0)) (mCons (mBin (binD .Sub) (mVar 1) (mLit (.int 1))) mNil)))) (mCall 1 (f__law_hand 37) (mCons (mBin idxD (mVar 0) (mLit (.int 2))) mNil))))
  (sRet (mAndV (mVar 2) (mAndV (mCall 3 f__law_bound (mCons (mBin idxD (mVar 0) (mLit (.int 3))) (mCons (mLit (.int 0)) (mCons (mLit (.int 6)) mNil)))) (mCall 3 f__law_bound (mCons (mBin idxD (mVar 0) (mLit (.int 4))) (mCons (mLit (.int 0)) (mCons (mLit (.int 6)) mNil))))))))
  sNext)
  (sRet (mBin (cmpD .Eq) (q__law_is_test_1 self) (mLst mNil))))))
noncomputable def f__law_is_test : Nat → Fn
  | 0 => fun _ _ => .fail
  | k + 1 => runBody (m__law_is_test (f__law_is_test k)) 4
noncomputable def q__law_is_claim_1 : M D := mComp [2] (bName 2) (mIter (mCut (mVar 0) (mPart (mLit (.int 1))) mNoPart)) (mNotT (mTru (mCall 2 (f__law_is_test 37) (mCons (mVar 2) (mCons (mVar 1) mNil))))) (mVar 2)
noncomputable def m__law_is_claim : MS :=
  (sSeq (sIf (mNotT (mTru (mCall 2 f__law_form (mCons (mVar 0) (mCons (mDict [.inr "never", .inr "behind", .inr "comes"] (mDCons (mLit (.int 2)) (mDCons (mLit (.int 3)) (mDCons (mLit (.int 3)) mDNil)))) mNil)))))
  (sRet (mLit (.bl false)))
  sNext)
  (sRet (mBin (cmpD .Eq) q__law_is_claim_1 (mLst mNil))))
noncomputable def f__law_is_claim : Fn := runBody m__law_is_claim 3
noncomputable def m__law_refused : MS :=
  (sSeq (sAsg (bName 2) (mLit (.bl false)))
  (sSeq (sTryAs (isxOf x_LetterError) 3 (sExpr (mCall 2 f_look_over_claim (mCons (mVar 0) (mCons (mVar 1) mNil))))
  (fun a_ d_ c_ => (sSeq (sAsg (bName 4) (mLst (mCons (mIsE 3 a_ d_ (is_NoStep.lookup c_)) (mCons (mIsE 3 a_ d_ (is_NoProgram.lookup c_)) (mCons (mIsE 3 a_ d_ (is_NoMove.lookup c_)) (mCons (mIsE 3 a_ d_ (is_NoText.lookup c_)) mNil))))))
  (sSeq (sAsg (bName 4) (mBin (binD .Add) (mVar 4) (mLst (mCons (mIsE 3 a_ d_ (is_NoRenaming.lookup c_)) (mCons (mIsE 3 a_ d_ (is_NoTalk.lookup c_)) (mCons (mIsE 3 a_ d_ (is_CantKnow.lookup c_)) mNil))))))
  (sSeq (sExpr (mApp (mVar 4) (mIsE 3 a_ d_ (is_NoLine.lookup c_))))
  (sAsg (bName 2) (mAndV (mIsE 3 a_ d_ (is_NoClaim.lookup c_)) (mAndV (mIsE 3 a_ d_ (is_ValueError.lookup c_)) (mBin (cmpD .NotIn) (mLit (.bl true)) (mVar 4))))))))))
  (sRet (mVar 2))))
noncomputable def f__law_refused : Fn := runBody m__law_refused 5
noncomputable def b_law_1 : MS :=
  (sSeq (sAsg (bName 4) (mCall 2 f__law_claim (mCons (mCall 2 f__law_cell_at (mCons (mVar 0) (mCons (mVar 3) mNil))) (mCons (mVar 1) mNil))))
  (sSeq (sIf (mTru (mBin (cmpD .IsNot) (mCall 2 f_look_over_claim (mCons (mVar 2) (mCons (mVar 4) mNil))) (mLit .non)))
  (sRet (mLit (.bl false)))
  sNext)
  (sSeq (sAsg (bName 5) (mCall 2 f__law_cell_at (mCons (mVar 0) (mCons (mBin (binD .Add) (mVar 3) (mLit (.int 1))) mNil))))
  (sSeq (sIf (mTru (mBin (cmpD .IsNot) (mCall 2 f_look_over_claim (mCons (mVar 2) (mCons (mBin (binD .Add) (mTup (mCons (mBin idxD (mVar 4) (mLit (.int 0))) (mCons (mCall 2 f__law_turned (mCons (mBin idxD (mVar 4) (mLit (.int 1))) (mCons (mBin (binD .Mod) (mVar 5) (mLit (.int 23))) mNil))) mNil))) (mCut (mVar 4) (mPart (mLit (.int 2))) mNoPart)) mNil))) (mLit .non)))
  (sRet (mLit (.bl false)))
  sNext)
  (sSeq (sAsg (bName 6) (mBin idxD (mLst (mCons (mLit .non) (mCons (mLit (.int 7)) (mCons (mLit (.str "never")) (mCons (mLst mNil) (mCons (mTup mNil) (mCons (mLst (mCons (mLit (.str "never")) (mCons (mBin idxD (mVar 4) (mLit (.int 1))) mNil))) (mCons (mTup (mCons (mVar 4) mNil)) (mCons (mBin idxD (mVar 4) (mLit (.int 1))) mNil))))))))) (mBin (binD .Mod) (mBin (binD .FloorDiv) (mVar 5) (mLit (.int 2))) (mLit (.int 8)))))
  (sSeq (sIf (mTru (mBin (cmpD .Eq) (mBin (binD .Mod) (mVar 5) (mLit (.int 2))) (mLit (.int 1))))
  (sAsg (bName 6) (mCall 3 (f__law_spoiled 37) (mCons (mVar 4) (mCons (mCall 3 f__law_draws (mCons (mBin (binD .FloorDiv) (mVar 5) (mLit (.int 2))) (mCons (mLit (.int 8)) (mCons (mBin (binD .Pow) (mLit (.int 10)) (mLit (.int 6))) mNil)))) (mCons (mLit (.int 6)) mNil)))))
  sNext)
  (sIf (mNotT (mTru (mCall 2 f__law_is_claim (mCons (mVar 6) (mCons (mVar 1) mNil)))))
  (sIf (mOrT (mNotT (mTru (mCall 2 f__law_refused (mCons (mVar 2) (mCons (mVar 6) mNil))))) (mOrT (mNotT (mTru (mCall 2 f__law_refused (mCons (mVar 2) (mCons (mVar 6) mNil))))) (mEndT false)))
  (sRet (mLit (.bl false)))
  sNext)
  (sIf (mTru (mBin (cmpD .IsNot) (mCall 2 f_look_over_claim (mCons (mVar 2) (mCons (mVar 6) mNil))) (mLit .non)))
  (sRet (mLit (.bl false)))
  sNext))))))))
noncomputable def l_law_1 : MS := sFor (bName 3) (mRange3 (mLit (.int 1)) (mBlt (bltD .max) (mCons (mLit (.int 3)) (mCons (mBlt (bltD .min) (mCons (mLit (.int 61)) (mCons (mBlt (bltD .len) (mCons (mVar 0) mNil)) mNil))) mNil))) (mLit (.int 2))) b_law_1
noncomputable def m_law : MS :=
  (sSeq (sAsg (bName 1) (mBin (binD .Add) (mLit (.int 1)) (mBin (binD .Mod) (mCall 2 f__law_cell_at (mCons (mVar 0) (mCons (mLit (.int 0)) mNil))) (mLit (.int 3)))))
  (sSeq (sAsg (bName 2) (mTup (mCons (mLit (.int 1)) (mCons (mTup (mCons (mLit (.int 0)) (mCons (mLit (.int 0)) mNil))) (mCons (mBin (binD .Mult) (mTup (mCons (mTup mNil) mNil)) (mVar 1)) (mCons (mTup (mCons (mLit (.int 0)) mNil)) mNil))))))
  (sSeq l_law_1
  (sRet (mLit (.bl true))))))
noncomputable def f_law : Fn := runBody m_law 7
def tabs : List TabK := [(("is_hand_test", none), nm_is_hand_test), (("is_test", none), nm_is_test)]
end Ev.K45
section
open PySem PySem.Spec PyProof.Rows L2 Ev
local macro_rules
  | `(tactic| walk_at "ev") => `(tactic| simp only [x_seqM, x_var, x_lit, x_bin, x_neg, x_tru, x_notT, x_notV, x_ite, x_endT, x_andT, x_orT, x_andV, x_orV, x_noPart, x_part, x_cut, x_rev, x_nil, x_cons, x_tup, x_lst, x_call, x_blt, x_isi, x_rgL, x_app, x_iter, x_range1, x_range2, x_bName, x_bNil, x_bCons, x_bTup, x_next, x_brk, x_cont, x_expr, x_ret, x_retN, x_if, x_asg, x_aug, x_sub, x_pop, x_popAt, x_enum, x_zip, x_chain, x_blO, x_range3, x_count,
      box_non, box_bl, box_int, box_str, box_tup, box_ref, box_fro, box_lst, boxL_nil, boxL_cons, getT, getT0, setT, setT0, getTs, getTs0, setTs, setTs0, isLst, seqL_lst, seqL_fro, seqL_ref, seqL_tup, seqL_int, seqL_non, seqL_bl, seqL_str, seqW_lst, seqW_ref, seqT_tup, seqT_ref, seqT_lst, seqT_fro, seqA_tup, seqA_lst, seqA_fro, seqA_ref,
      eqD_int, eqD_bl, isD_bb, isD_nn, isD_in, isD_tn, isD_sn, isD_rn, isi_non, isi_bl, isi_int, isi_str, isi_tup, isi_ref, items_tup, items_lst, items_fro, items_ref, cmp_eq, cmp_ne, cmp_lt, cmp_le, cmp_gt, cmp_ge, cmp_is, cmp_isnot, cmp_in, cmp_notin, bin_add, bin_sub, bin_mod, bin_div, bin_pow, bin_shl, bin_shr, bin_and, bin_or, tru_bl, tru_int, tru_non, intC_int, intB_int, bind_ok, bind_exc, bind_fail, of_some, of_none, s_ok, s_exc, s_fail, noX_ok,
      List.getElem?_cons_zero, List.getElem?_cons_succ, List.getElem?_nil, List.set_cons_zero, List.set_cons_succ, List.length_cons, List.length_nil, List.length_set, List.length_append, List.map_cons, List.map_nil, List.cons_append, List.nil_append, if_true, if_false, ite_true, ite_false, decide_true, decide_false, Bool.not_true, Bool.not_false, beq_self_eq_true, beq_tt, beq_ff, beq_tf, beq_ft, Bool.not_not, reduceCtorEq, or_false, false_or, or_true, true_or, or_self, and_self, and_true, true_and, Bool.false_eq_true, Nat.add_zero, Nat.zero_add])
  | `(tactic| walk_at "ev*") => `(tactic| simp only [x_seqM, x_var, x_lit, x_bin, x_neg, x_tru, x_notT, x_notV, x_ite, x_endT, x_andT, x_orT, x_andV, x_orV, x_noPart, x_part, x_cut, x_rev, x_nil, x_cons, x_tup, x_lst, x_call, x_blt, x_isi, x_rgL, x_app, x_iter, x_range1, x_range2, x_bName, x_bNil, x_bCons, x_bTup, x_next, x_brk, x_cont, x_expr, x_ret, x_retN, x_if, x_asg, x_aug, x_sub, x_pop, x_popAt, x_enum, x_zip, x_chain, x_blO, x_range3, x_count,
      box_non, box_bl, box_int, box_str, box_tup, box_ref, box_fro, box_lst, boxL_nil, boxL_cons, getT, getT0, setT, setT0, getTs, getTs0, setTs, setTs0, isLst, seqL_lst, seqL_fro, seqL_ref, seqL_tup, seqL_int, seqL_non, seqL_bl, seqL_str, seqW_lst, seqW_ref, seqT_tup, seqT_ref, seqT_lst, seqT_fro, seqA_tup, seqA_lst, seqA_fro, seqA_ref,
      eqD_int, eqD_bl, isD_bb, isD_nn, isD_in, isD_tn, isD_sn, isD_rn, isi_non, isi_bl, isi_int, isi_str, isi_tup, isi_ref, items_tup, items_lst, items_fro, items_ref, cmp_eq, cmp_ne, cmp_lt, cmp_le, cmp_gt, cmp_ge, cmp_is, cmp_isnot, cmp_in, cmp_notin, bin_add, bin_sub, bin_mod, bin_div, bin_pow, bin_shl, bin_shr, bin_and, bin_or, tru_bl, tru_int, tru_non, intC_int, intB_int, bind_ok, bind_exc, bind_fail, of_some, of_none, s_ok, s_exc, s_fail, noX_ok,
      List.getElem?_cons_zero, List.getElem?_cons_succ, List.getElem?_nil, List.set_cons_zero, List.set_cons_succ, List.length_cons, List.length_nil, List.length_set, List.length_append, List.map_cons, List.map_nil, List.cons_append, List.nil_append, if_true, if_false, ite_true, ite_false, decide_true, decide_false, Bool.not_true, Bool.not_false, beq_self_eq_true, beq_tt, beq_ff, beq_tf, beq_ft, Bool.not_not, reduceCtorEq, or_false, false_or, or_true, true_or, or_self, and_self, and_true, true_and, Bool.false_eq_true, Nat.add_zero, Nat.zero_add, *])
local macro_rules
  | `(tactic| walk_at "vc") => `(tactic| try simp only [x_var, x_lit, x_bin, x_neg, x_tru, x_notT, x_notV, x_ite, x_endT, x_andT, x_orT, x_andV, x_orV, x_noPart, x_part, x_cut, x_rev, x_nil, x_cons, x_tup, x_lst, x_call, x_blt, x_isi, x_rgL, x_app, x_iter, x_range1, x_range2, x_bName, x_bNil, x_bCons, x_bTup, x_next, x_brk, x_cont, x_expr, x_ret, x_retN, x_if, x_asg, x_aug, x_sub, x_pop, x_popAt, x_enum, x_zip, x_chain, x_blO, x_range3, x_count,
      box_non, box_bl, box_int, box_str, box_tup, box_ref, box_fro, box_lst, boxL_nil, boxL_cons, getT, getT0, setT, setT0, getTs, getTs0, setTs, setTs0, isLst, seqL_lst, seqL_fro, seqL_ref, seqL_tup, seqL_int, seqL_non, seqL_bl, seqL_str, seqW_lst, seqW_ref, seqT_tup, seqT_ref, seqT_lst, seqT_fro, seqA_tup, seqA_lst, seqA_fro, seqA_ref,
      eqD_int, eqD_bl, isD_bb, isD_nn, isD_in, isD_tn, isD_sn, isD_rn, isi_non, isi_bl, isi_int, isi_str, isi_tup, isi_ref, items_tup, items_lst, items_fro, items_ref, cmp_eq, cmp_ne, cmp_lt, cmp_le, cmp_gt, cmp_ge, cmp_is, cmp_isnot, cmp_in, cmp_notin, bin_add, bin_sub, bin_mod, bin_div, bin_pow, bin_shl, bin_shr, bin_and, bin_or, tru_bl, tru_int, tru_non, intC_int, intB_int, bind_ok, bind_exc, bind_fail, of_some, of_none, s_ok, s_exc, s_fail, noX_ok,
       szle_0, szlt_0, szle_1, szlt_1, szle_2, szlt_2, szle_3, szlt_3, szle_4, szlt_4, szle_5, szlt_5, szle_6, szlt_6, szle_7, szlt_7, szle_8, szlt_8, szle_9, szlt_9, szle_10, szlt_10, szle_11, szlt_11, szle_12, szlt_12, szle_13, szlt_13, szle_14, szlt_14, szle_15, szlt_15, szle_16, szlt_16, szle_17, szlt_17, szle_18, szlt_18, szle_19, szlt_19, szle_20, szlt_20, szle_21, szlt_21, szle_22, szlt_22, szle_23, szlt_23, szle_24, szlt_24, szle_25, szlt_25, szle_26, szlt_26, szle_27, szlt_27, szle_28, szlt_28, szle_29, szlt_29, szle_30, szlt_30, idxT_0, idxT_1, idxT_2, idxT_3, idxT_4, cutT_1, List.append_assoc, x_un, x_dict, x_dnil, x_dcons, x_ext, x_lenSet, x_upd, x_make, x_meth, x_fld, x_sfld, x_par, x_raise, box_dk, box_obj, x_deep, x_tcnt, deep_tup, deep_ptup, deep_int, deepL_nil, deepL_cons, deep_ints, dget_str, dictK_ref, dictK_dk, objOf_ref, objOf_obj, Option.isSome_some, Option.isSome_none, box_ptup, dv2, md2, wp_ok, wp_exc, wp_fail, wp_bind, wp_some, wp_noX, sw_next, sw_ret, sw_brk, sw_cont, sw_exc, sw_fail, sw_s, x_for, x_comp, x_weak, x_tidx, weakD, wipeE, List.map_append, List.map_cons, List.replicate_succ, List.replicate_zero, Nat.sub_zero, Nat.reduceSub, Nat.reduceAdd, List.set_cons_zero, List.set_cons_succ, List.foldl_cons, List.foldl_nil, List.getElem?_cons_zero, List.getElem?_cons_succ, List.getElem?_nil, List.set_cons_zero, List.set_cons_succ, List.length_cons, List.length_nil, List.length_set, List.length_append, List.map_cons, List.map_nil, List.cons_append, List.nil_append, if_true, if_false, ite_true, ite_false, decide_true, decide_false, Bool.not_true, Bool.not_false, beq_self_eq_true, beq_tt, beq_ff, beq_tf, beq_ft, Bool.not_not, reduceCtorEq, or_false, false_or, or_true, true_or, or_self, and_self, and_true, true_and, Bool.false_eq_true, Nat.add_zero, Nat.zero_add])
  | `(tactic| walk_at "vc*") => `(tactic| try simp only [x_var, x_lit, x_bin, x_neg, x_tru, x_notT, x_notV, x_ite, x_endT, x_andT, x_orT, x_andV, x_orV, x_noPart, x_part, x_cut, x_rev, x_nil, x_cons, x_tup, x_lst, x_call, x_blt, x_isi, x_rgL, x_app, x_iter, x_range1, x_range2, x_bName, x_bNil, x_bCons, x_bTup, x_next, x_brk, x_cont, x_expr, x_ret, x_retN, x_if, x_asg, x_aug, x_sub, x_pop, x_popAt, x_enum, x_zip, x_chain, x_blO, x_range3, x_count,
      box_non, box_bl, box_int, box_str, box_tup, box_ref, box_fro, box_lst, boxL_nil, boxL_cons, getT, getT0, setT, setT0, getTs, getTs0, setTs, setTs0, isLst, seqL_lst, seqL_fro, seqL_ref, seqL_tup, seqL_int, seqL_non, seqL_bl, seqL_str, seqW_lst, seqW_ref, seqT_tup, seqT_ref, seqT_lst, seqT_fro, seqA_tup, seqA_lst, seqA_fro, seqA_ref,
      eqD_int, eqD_bl, isD_bb, isD_nn, isD_in, isD_tn, isD_sn, isD_rn, isi_non, isi_bl, isi_int, isi_str, isi_tup, isi_ref, items_tup, items_lst, items_fro, items_ref, cmp_eq, cmp_ne, cmp_lt, cmp_le, cmp_gt, cmp_ge, cmp_is, cmp_isnot, cmp_in, cmp_notin, bin_add, bin_sub, bin_mod, bin_div, bin_pow, bin_shl, bin_shr, bin_and, bin_or, tru_bl, tru_int, tru_non, intC_int, intB_int, bind_ok, bind_exc, bind_fail, of_some, of_none, s_ok, s_exc, s_fail, noX_ok,
       szle_0, szlt_0, szle_1, szlt_1, szle_2, szlt_2, szle_3, szlt_3, szle_4, szlt_4, szle_5, szlt_5, szle_6, szlt_6, szle_7, szlt_7, szle_8, szlt_8, szle_9, szlt_9, szle_10, szlt_10, szle_11, szlt_11, szle_12, szlt_12, szle_13, szlt_13, szle_14, szlt_14, szle_15, szlt_15, szle_16, szlt_16, szle_17, szlt_17, szle_18, szlt_18, szle_19, szlt_19, szle_20, szlt_20, szle_21, szlt_21, szle_22, szlt_22, szle_23, szlt_23, szle_24, szlt_24, szle_25, szlt_25, szle_26, szlt_26, szle_27, szlt_27, szle_28, szlt_28, szle_29, szlt_29, szle_30, szlt_30, idxT_0, idxT_1, idxT_2, idxT_3, idxT_4, cutT_1, List.append_assoc, x_un, x_dict, x_dnil, x_dcons, x_ext, x_lenSet, x_upd, x_make, x_meth, x_fld, x_sfld, x_par, x_raise, box_dk, box_obj, x_deep, x_tcnt, deep_tup, deep_ptup, deep_int, deepL_nil, deepL_cons, deep_ints, dget_str, dictK_ref, dictK_dk, objOf_ref, objOf_obj, Option.isSome_some, Option.isSome_none, box_ptup, dv2, md2, wp_ok, wp_exc, wp_fail, wp_bind, wp_some, wp_noX, sw_next, sw_ret, sw_brk, sw_cont, sw_exc, sw_fail, sw_s, x_for, x_comp, x_weak, x_tidx, weakD, wipeE, List.map_append, List.map_cons, List.replicate_succ, List.replicate_zero, Nat.sub_zero, Nat.reduceSub, Nat.reduceAdd, List.set_cons_zero, List.set_cons_succ, List.foldl_cons, List.foldl_nil, List.getElem?_cons_zero, List.getElem?_cons_succ, List.getElem?_nil, List.set_cons_zero, List.set_cons_succ, List.length_cons, List.length_nil, List.length_set, List.length_append, List.map_cons, List.map_nil, List.cons_append, List.nil_append, if_true, if_false, ite_true, ite_false, decide_true, decide_false, Bool.not_true, Bool.not_false, beq_self_eq_true, beq_tt, beq_ff, beq_tf, beq_ft, Bool.not_not, reduceCtorEq, or_false, false_or, or_true, true_or, or_self, and_self, and_true, true_and, Bool.false_eq_true, Nat.add_zero, Nat.zero_add, *])
set_option hygiene false
local macro_rules
  | `(tactic| walk_at "nx") => `(tactic| (refine sw_seq fun N hN => ?_; walk_at "vc"))
  | `(tactic| walk_at "go") => `(tactic| (refine hN _ _ ?_; clear hN; clear N))
  | `(tactic| walk_at "nx*") => `(tactic| (refine sw_seq fun N hN => ?_; walk_at "vc*"))
  | `(tactic| walk_at "st") => `(tactic| (refine sw_seq fun N hN => ?_; walk_at "vc"; refine hN _ _ ?_; clear hN; clear N))
  | `(tactic| walk_at "st*") => `(tactic| (refine sw_seq fun N hN => ?_; walk_at "vc*"; refine hN _ _ ?_; clear hN; clear N))
local macro_rules
  | `(tactic| walk_at "sq") => `(tactic| first | (rw [eqS_ne ?hsq]; (case hsq => decide +kernel)) | (rw [eqS_eq ?hsq]; (case hsq => decide +kernel)))
  | `(tactic| walk_at "lk") => `(tactic| repeat (first | rw [lookK_hit] | (rw [lookK_miss ?hlk]; (case hlk => decide +kernel))))
  | `(tactic| walk_at "ls") => `(tactic| repeat (first | rw [lookS_hit] | (rw [lookS_miss ?hls]; (case hls => decide +kernel))))
  | `(tactic| walk_at "if0") => `(tactic| (refine sw_seq fun N hN => ?_; walk_at "vc"; walk_at "sq"; walk_at "vc"; refine hN _ _ ?_; clear hN; clear N))
set_option hygiene true
local macro_rules
  | `(tactic| walk_at "nm") => `(tactic| repeat (simp only [md_3, md_4, md_5, md_6, md_7, md_9, md_10, md_11, md_16, md_18, md_19, md_22, md_23, md_30, md_36, md_60, md_64, md_66, md_90, md_100, md_198, md_396, md_594, md_613, md_1009, md_1782, md_4096, md_12078, md_24156, md_256, dv_3, dv_4, dv_5, dv_6, dv_7, dv_9, dv_10, dv_16, dv_18, dv_22, dv_30, dv_36, dv_60, dv_64, dv_66, dv_90, dv_198, dv_396, dv_594, dv_613, dv_1009, dv_1782, dv_4096, dv_12078, dv_24156, dv_256, lg_2, lg_3, lg_4, lg_5, lg_6, lg_7, lg_9, lg_10, lg_16, lg_18, lg_22, lg_30, lg_36, lg_60, lg_64, lg_66, lg_90, lg_198, lg_396, lg_594, lg_613, lg_1009, lg_1782, lg_4096, lg_12078, lg_24156, lg_256]; walk_at "vc"))
namespace Ev.K45
open PySem PySem.Spec PyProof.Rows L2 Ev
theorem small_log {a : Int} (h0 : 0 ≤ a) (h : a < 2 ^ 100) : a.natAbs.log2 < 200 := by
  by_cases e : a.natAbs = 0
  · rw [e]; decide
  · have : a.natAbs < 2 ^ 200 := Nat.lt_of_lt_of_le (by omega : a.natAbs < 2 ^ 100) (Nat.pow_le_pow_right (by omega) (by omega))
    exact (Nat.log2_lt e).mpr this
theorem mul_small {a b : Int} {S : Store} (h0 : 0 ≤ a) (h1 : a < 2 ^ 100) (h2 : 0 ≤ b) (h3 : b < 2 ^ 100) : binD .Mult (.int a) (.int b) S = some (.int (a * b)) :=
  bin_mul (by have := small_log h0 h1; have := small_log h2 h3; omega)
/-- the mixed draw, as far as it matters -/
theorem mixed_ok (n : Int) {k : Nat} (hk : k < 100000) : ∃ r : Int, 0 ≤ r ∧ r < 2147483647 ∧ ∀ S, f__law_mixed [.int n, .int k] S = .ok (.int r) S := by
  have a0 := Int.emod_nonneg n (b := 2147483647) (by decide)
  have a1 := Int.emod_lt_of_pos n (b := 2147483647) (by decide)
  generalize hx : n % 2147483647 = x at a0 a1
  have y0 := Int.emod_nonneg ((x + 7919 * (k : Int) + 1) * 48271) (b := 2147483647) (by decide)
  have y1 := Int.emod_lt_of_pos ((x + 7919 * (k : Int) + 1) * 48271) (b := 2147483647) (by decide)
  generalize hy : (x + 7919 * (k : Int) + 1) * 48271 % 2147483647 = y at y0 y1
  refine ⟨y * (y / 1009 + 69621) % 2147483647, Int.emod_nonneg _ (by decide), Int.emod_lt_of_pos _ (by decide), fun S => ?_⟩
  refine run_ret (d := .int (y * (y / 1009 + 69621) % 2147483647)) (S2 := S) ?_ closeD_same
  show m__law_mixed [some (.int n), some (.int k), none] S = _
  have d1 : (0 : Int) < 1009 ∧ (1009 : Int).natAbs.log2 < 9000 := by decide
  have p1 : (0 : Int) < 2147483647 := by decide
  unfold m__law_mixed
  walk_at "ev"
  rw [if_pos p1]
  walk_at "ev"
  rw [hx, mul_small (by omega) (by omega) (by omega) (by omega)]
  walk_at "ev"
  rw [mul_small (by omega) (by omega) (by omega) (by omega)]
  walk_at "ev"
  rw [if_pos p1]
  walk_at "ev"
  rw [hy, if_pos d1]
  walk_at "ev"
  rw [mul_small (by omega) (by omega) (by omega) (by omega)]
  walk_at "ev"
  rw [if_pos p1]
  rfl
theorem draw_step {S : Store} {c b rest : Int} {n k : Nat} {acc : List Int} {x : Option D} (hk : k < 100000) (hb0 : 0 < b) (hb1 : b < 2147483399) (ha : acc.length < 1000000) :
    ∃ (z rest' : Int) (x' : Option D), 0 ≤ z ∧ z < 2147483399 ∧ b__law_draws_1 [some (.int c), some (.int n), some (.int b), some (.ref S.length), some (.int rest), some (.int k), x] (S ++ [.lst (acc.map .int)]) =
      .next [some (.int c), some (.int n), some (.int b), some (.ref S.length), some (.int rest'), some (.int k), x'] (S ++ [.lst ((acc ++ [z]).map .int)]) := by
  have hsz : (2000000 : Nat) < sizeLine := by decide
  have hfl : (acc.map D.int).length < sizeLine := by rw [List.length_map]; omega
  have p2 : (0 : Int) < 2 := by decide
  have db : 0 < b ∧ b.natAbs.log2 < 9000 := ⟨hb0, by have := small_log (a := b) (by omega) (by omega); omega⟩
  by_cases h : c % 2 = 0 ∧ 0 < rest
  · refine ⟨rest % b, rest / b, x, Int.emod_nonneg _ (by omega), by have := Int.emod_lt_of_pos rest hb0; omega, ?_⟩
    unfold b__law_draws_1
    walk_at "ev"
    rw [if_pos p2]
    walk_at "ev"
    rw [decide_eq_true h.1]
    walk_at "ev"
    rw [decide_eq_true h.2]
    walk_at "ev"
    rw [if_pos hb0]
    walk_at "ev"
    rw [if_pos hfl]
    walk_at "ev"
    rw [if_pos db, List.map_append]
    rfl
  · obtain ⟨y, y0, y1, e⟩ := mixed_ok c hk
    have d6 : (0 : Int) < 613 ∧ (613 : Int).natAbs.log2 < 9000 := by decide
    have p3 : (0 : Int) < 2147483399 := by decide
    refine ⟨y * (y / 613 + 40692) % 2147483399, rest, some (.int y), Int.emod_nonneg _ (by decide), Int.emod_lt_of_pos _ (by decide), ?_⟩
    have test : (mAndT (mTru (mBin (cmpD .Eq) (mBin (binD .Mod) (mVar 0) (mLit (.int 2))) (mLit (.int 0)))) (mAndT (mTru (mBin (cmpD .Gt) (mVar 4) (mLit (.int 0)))) (mEndT true))) [some (.int c), some (.int n), some (.int b), some (.ref S.length), some (.int rest), some (.int k), x] (S ++ [.lst (acc.map .int)]) = .ok false (S ++ [.lst (acc.map .int)]) := by
      walk_at "ev"
      rw [if_pos p2]
      walk_at "ev"
      by_cases hc : c % 2 = 0
      · rw [decide_eq_true hc]
        walk_at "ev"
        rw [decide_eq_false (fun z => h ⟨hc, z⟩)]
        walk_at "ev"
      · rw [decide_eq_false hc]
        walk_at "ev"
    unfold b__law_draws_1
    rw [x_if, test, s_ok, if_neg (by simp)]
    walk_at "ev"
    rw [e]
    walk_at "ev"
    rw [if_pos d6]
    walk_at "ev"
    rw [mul_small (by omega) (by omega) (by omega) (by omega)]
    walk_at "ev"
    rw [if_pos p3]
    walk_at "ev"
    rw [if_pos hfl, List.map_append]
    rfl
theorem draws_loop {S : Store} {c b : Int} {n : Nat} (hb0 : 0 < b) (hb1 : b < 2147483399) (hn : n ≤ 50000) : ∀ (m i : Nat) (rest : Int) (acc : List Int) (x5 x6 : Option D), m + i = n → acc.length = i → (∀ z ∈ acc, 0 ≤ z ∧ z < 2147483399) →
    ∃ (ns : List Int) (rest' : Int) (y5 y6 : Option D), ns.length = n ∧ (∀ z ∈ ns, 0 ≤ z ∧ z < 2147483399) ∧ forD (bName 5) b__law_draws_1 [] ((List.range' i m).map fun (i : Nat) => .int (i : Int)) [some (.int c), some (.int n), some (.int b), some (.ref S.length), some (.int rest), x5, x6] (S ++ [.lst (acc.map .int)]) =
      .next [some (.int c), some (.int n), some (.int b), some (.ref S.length), some (.int rest'), y5, y6] (S ++ [.lst (ns.map .int)]) := by
  intro m
  induction m with
  | zero =>
    intro i rest acc x5 x6 hm ha hz
    exact ⟨acc, rest, x5, x6, by omega, hz, by unfold forD; exact if_pos trivial⟩
  | succ m ih =>
    intro i rest acc x5 x6 hm ha hz
    obtain ⟨z, rest', x', z0, z1, e⟩ := draw_step (S := S) (c := c) (n := n) (k := i) (acc := acc) (rest := rest) (x := x6) (by omega) hb0 hb1 (by omega)
    obtain ⟨ns, r2, y5, y6, q1, q2, q3⟩ := ih (i + 1) rest' (acc ++ [z]) (some (.int (i : Int))) x' (by omega) (by rw [List.length_append, ha]; rfl) (by
      intro w hw
      rcases List.mem_append.mp hw with h | h
      · exact hz w h
      · cases List.mem_singleton.mp h; exact ⟨z0, z1⟩)
    refine ⟨ns, r2, y5, y6, q1, q2, ?_⟩
    rw [List.range'_succ, List.map_cons]
    unfold forD
    rw [if_pos (show gOk [] _ from trivial)]
    walk_at "ev"
    simp only [e]
    exact q3
theorem draws_ok {S : Store} (c : Int) {b : Int} {n : Nat} (hb0 : 0 < b) (hb1 : b < 2147483399) (hn : n ≤ 50000) :
    ∃ ns : List Int, ns.length = n ∧ (∀ z ∈ ns, 0 ≤ z ∧ z < 2147483399) ∧ f__law_draws [.int c, .int n, .int b] S = .ok (.lst (ns.map .int)) S := by
  have d2 : (0 : Int) < 2 ∧ (2 : Int).natAbs.log2 < 9000 := by decide
  obtain ⟨ns, r, y5, y6, q1, q2, q3⟩ := draws_loop (S := S) (c := c) hb0 hb1 hn n 0 (c / 2) [] none none (by omega) rfl (fun _ h => nomatch h)
  refine ⟨ns, q1, q2, run_ret (d := .ref (S.length + 0)) (S2 := S ++ [.lst (ns.map .int)]) ?_ (closeD_new (k := 0) lo_ints rfl)⟩
  show m__law_draws [some (.int c), some (.int n), some (.int b), none, none, none, none] S = _
  have hloop : l__law_draws_1 [some (.int c), some (.int n), some (.int b), some (.ref S.length), some (.int (c / 2)), none, none] (S ++ [.lst []]) =
      .next [some (.int c), some (.int n), some (.int b), some (.ref S.length), some (.int r), y5, y6] (S ++ [.lst (ns.map .int)]) := by
    unfold l__law_draws_1 sFor
    walk_at "ev"
    rw [if_pos (show In62 (n : Int) from ⟨by omega, by omega⟩)]
    walk_at "ev"
    have er : rangeL 0 (n : Int).toNat = (List.range' 0 n).map fun (i : Nat) => .int (i : Int) := by
      rw [Int.toNat_natCast, range_iota]
      unfold iota; rw [List.map_map, List.range_eq_range']; rfl
    rw [er]
    exact q3
  unfold m__law_draws
  walk_at "ev"
  rw [if_pos (Nat.zero_le _)]
  walk_at "ev"
  rw [if_pos d2]
  walk_at "ev"
  rw [hloop]
  walk_at "ev"
end Ev.K45
namespace Ev.K45
open PySem PySem.Spec PyProof.Rows L2 Ev
theorem cell_at_eq {ns : List Int} {k : Nat} {S : Store} : f__law_cell_at [.fro (ns.map .int), .int k] S = .ok (.int (ns[k]?.getD 0)) S := by
  have hx : (bltD .len [.fro (ns.map D.int)] S) = some (.int ns.length) := by
    show some (D.int ((ns.map D.int).length : Nat)) = _
    simp
  refine run_ret (d := .int (ns[k]?.getD 0)) (S2 := S) ?_ closeD_same
  show m__law_cell_at [some (.fro (ns.map .int)), some (.int k)] S = _
  unfold m__law_cell_at
  walk_at "ev"
  rw [hx]
  by_cases h : k < ns.length
  · have h1 : ((k : Nat) : Int) < ns.length := by omega
    have hi : idxD (.fro (ns.map D.int)) (.int k) S = some (.int (ns[k]?.getD 0)) := by
      show atI (ns.map D.int) (k : Int) = _
      unfold atI ixN
      simp [h]
    walk_at "ev"
    rw [decide_eq_true h1, if_pos rfl, hi]
    rfl
  · have h1 : ¬ ((k : Nat) : Int) < ns.length := by omega
    walk_at "ev"
    have : ns[k]? = none := by simp; omega
    rw [decide_eq_false h1, if_neg (by simp), this]
    rfl
theorem cell_wp {ns : List Int} {k : Int} {S : Store} {Q : D → Store → Prop} {E : XP} (h : 0 ≤ k) (q : ∀ z : Int, Q (.int z) S) : (f__law_cell_at [.fro (ns.map .int), .int k] S).wp Q E := by
  obtain ⟨j, rfl⟩ := Int.eq_ofNat_of_zero_le h
  exact wp_eq cell_at_eq (q _)
end Ev.K45
namespace Ev.K45
open PySem PySem.Spec PyProof.Rows L2 Ev
/-! ### tests -/
inductive HT where
  | at (p : Int)
  | num (a : Int) (lo hi : Option Int)
  | has (n : Int)
  | many (s m : Int)
  | bell
  | fallen
  | not (t : HT)
  | both (t u : HT)
  | either (t u : HT)
def HT.d : HT → D
  | .at p => .tup [.str "at", .int p]
  | .num a lo hi => .tup [.str "number", .int a, bdD lo, bdD hi]
  | .has n => .tup [.str "has", .int n]
  | .many s m => .tup [.str "many", .int s, .int m]
  | .bell => .tup [.str "bell"]
  | .fallen => .tup [.str "fallen"]
  | .not t => .tup [.str "not", t.d]
  | .both t u => .tup [.str "both", t.d, u.d]
  | .either t u => .tup [.str "either", t.d, u.d]
def HT.Ok : HT → Prop
  | .at p => 0 ≤ p ∧ p ≤ 60
  | .num a _ _ => 0 ≤ a ∧ a < 3
  | .has n => 0 ≤ n ∧ n < 3
  | .many s m => (0 ≤ s ∧ s < 2) ∧ 0 ≤ m ∧ m ≤ 6
  | .not t => t.Ok
  | .both t u => t.Ok ∧ u.Ok
  | .either t u => t.Ok ∧ u.Ok
  | _ => True
def HT.dep : HT → Nat
  | .not t => t.dep + 1
  | .both t u => max t.dep u.dep + 1
  | .either t u => max t.dep u.dep + 1
  | _ => 0
inductive WT where
  | count (role : Int) (t : HT) (lo hi : Option Int)
  | letters (kind : Int) (lo hi : Option Int)
  | not (t : WT)
  | both (t u : WT)
  | either (t u : WT)
def WT.d : WT → D
  | .count r t lo hi => .tup [.str "count", .int r, t.d, bdD lo, bdD hi]
  | .letters k lo hi => .tup [.str "letters", .int k, bdD lo, bdD hi]
  | .not t => .tup [.str "not", t.d]
  | .both t u => .tup [.str "both", t.d, u.d]
  | .either t u => .tup [.str "either", t.d, u.d]
/-- a bound within -/
def InB (lo hi : Int) (b : Option Int) : Prop := ∀ z, b = some z → lo ≤ z ∧ z ≤ hi
def WT.Ok : WT → Prop
  | .count _ t lo hi => (t.Ok ∧ t.dep ≤ 8) ∧ InB 0 6 lo ∧ InB 0 6 hi
  | .letters k lo hi => (1 ≤ k ∧ k ≤ 12) ∧ InB 0 6 lo ∧ InB 0 6 hi
  | .not t => t.Ok
  | .both t u => t.Ok ∧ u.Ok
  | .either t u => t.Ok ∧ u.Ok
def WT.dep : WT → Nat
  | .not t => t.dep + 1
  | .both t u => max t.dep u.dep + 1
  | .either t u => max t.dep u.dep + 1
  | _ => 0
theorem HT.is (t : HT) : ∃ ds, t.d = .tup ds := by cases t <;> exact ⟨_, rfl⟩
theorem WT.is (t : WT) : ∃ ds, t.d = .tup ds := by cases t <;> exact ⟨_, rfl⟩
theorem HT.lo {n : Nat} : ∀ t : HT, t.d.lo n = true
  | .at p => rfl
  | .num a lo hi => by unfold HT.d; simp [bd_lo]
  | .has n => rfl
  | .many s m => rfl
  | .bell => rfl
  | .fallen => rfl
  | .not t => by unfold HT.d; simp [HT.lo t]
  | .both t u => by unfold HT.d; simp [HT.lo t, HT.lo u]
  | .either t u => by unfold HT.d; simp [HT.lo t, HT.lo u]
theorem WT.lo {n : Nat} : ∀ t : WT, t.d.lo n = true
  | .count r t a b => by unfold WT.d; simp [bd_lo, HT.lo t]
  | .letters k a b => by unfold WT.d; simp [bd_lo]
  | .not t => by unfold WT.d; simp [WT.lo t]
  | .both t u => by unfold WT.d; simp [WT.lo t, WT.lo u]
  | .either t u => by unfold WT.d; simp [WT.lo t, WT.lo u]
theorem HT.box {t : HT} {S : Store} : Ev.box t.d S = (t.d, S) := by obtain ⟨ds, e⟩ := t.is; rw [e]; rfl
theorem WT.box {t : WT} {S : Store} : Ev.box t.d S = (t.d, S) := by obtain ⟨ds, e⟩ := t.is; rw [e]; rfl
end Ev.K45
namespace Ev.K45
open PySem PySem.Spec PyProof.Rows L2 Ev
/-! ### tests, drawn -/
theorem get_set {S : Store} {c : Nat} {x y : Cell} (h : S[c]? = some x) : (S.set c y)[c]? = some y := by
  obtain ⟨hc, _⟩ := List.getElem?_eq_some_iff.mp h
  rw [List.getElem?_set, if_pos rfl, if_pos hc]
theorem closeR_cell {S T : Store} {Q : D → Store → Prop} {d : D} {c : Nat} {ds : List D} (hl : loL S.length ds = true) (h : d.lo S.length = true) (q : Q d (S.set c (.lst ds))) : closeR S Q d (S.set c (.lst ds) ++ T) := closeR_eq (closeD_set rfl hl h) q
theorem closeR_cell0 {S : Store} {Q : D → Store → Prop} {d : D} {c : Nat} {ds : List D} (hl : loL S.length ds = true) (h : d.lo S.length = true) (q : Q d (S.set c (.lst ds))) : closeR S Q d (S.set c (.lst ds)) := by
  have := closeR_cell (T := []) (c := c) hl h q
  rwa [List.append_nil] at this
theorem two_of {zs : List Int} (h : zs.length = 2) : ∃ a b, zs = [a, b] := by
  rcases zs with _ | ⟨a, _ | ⟨b, _ | ⟨c, zs⟩⟩⟩
  · simp at h
  · simp at h
  · exact ⟨a, b, rfl⟩
  · simp at h
theorem bounds_wp {S : Store} {d lo hi : Int} {Q : D → Store → Prop} {E : XP} (h : lo ≤ hi) (q : ∀ a b : Option Int, InB lo (hi + 1) a → InB lo (hi + 1) b → Q (.tup [bdD a, bdD b]) S) : (f__law_bounds [.int d, .int lo, .int hi] S).wp Q E := by
  have p1 : 0 < hi - lo + 1 := by omega
  refine run_wp ?_
  walk_at "vc"
  unfold m__law_bounds
  walk_at "nx"
  walk_at "nm"
  rw [if_pos p1]
  walk_at "vc"
  walk_at "nm"
  rw [if_pos p1]
  walk_at "vc"
  rw [show [D.int (lo + d / 4 % (hi - lo + 1)), .int (lo + d / 64 % (hi - lo + 1))] = [lo + d / 4 % (hi - lo + 1), lo + d / 64 % (hi - lo + 1)].map D.int from rfl, sorted_lst]
  have hl : (sortI [lo + d / 4 % (hi - lo + 1), lo + d / 64 % (hi - lo + 1)]).length = 2 := (sortI_perm _).length_eq
  obtain ⟨a, b, e⟩ := two_of hl
  have mem : ∀ z ∈ [a, b], lo ≤ z ∧ z ≤ hi := fun z hz => by
    rw [← e] at hz
    have h2 := (sortI_perm _).mem_iff.mp hz
    have m0 := Int.emod_nonneg (d / 4) (b := hi - lo + 1) (by omega)
    have m1 := Int.emod_lt_of_pos (d / 4) p1
    have m2 := Int.emod_nonneg (d / 64) (b := hi - lo + 1) (by omega)
    have m3 := Int.emod_lt_of_pos (d / 64) p1
    simp only [List.mem_cons, List.not_mem_nil, or_false] at h2
    rcases h2 with rfl | rfl <;> omega
  have ma := mem a (by simp)
  have mb := mem b (by simp)
  have inb : ∀ {z : Int}, lo ≤ z ∧ z ≤ hi → InB lo (hi + 1) (some z) := fun {z} h w hw => by cases hw; omega
  have inn : InB lo (hi + 1) none := fun w hw => by cases hw
  have inc : ∀ {z : Int}, lo ≤ z ∧ z ≤ hi → InB lo (hi + 1) (some (z + 1)) := fun {z} h w hw => by cases hw; omega
  rw [e]
  walk_at "vc"
  walk_at "go"
  walk_at "nx"
  walk_at "nm"
  have k0 := Int.emod_nonneg d (b := 4) (by decide)
  have k1 := Int.emod_lt_of_pos d (b := 4) (by decide)
  have fin : ∀ {k : Nat} {T : Store} {a b : Int}, lo ≤ a ∧ a ≤ hi → lo ≤ b ∧ b ≤ hi → (S ++ T)[S.length + k]? = some (.lst [.int a, .int b]) → (sRet (mBin idxD (mLst (mCons (mTup (mCons (mBin idxD (mVar 3) (mLit (.int 0))) (mCons (mBin idxD (mVar 3) (mLit (.int 1))) mNil))) (mCons (mTup (mCons (mBin idxD (mVar 3) (mLit (.int 0))) (mCons (mLit .non) mNil))) (mCons (mTup (mCons (mLit .non) (mCons (mBin idxD (mVar 3) (mLit (.int 1))) mNil))) (mCons (mTup (mCons (mBin idxD (mVar 3) (mLit (.int 0))) (mCons (mBin (binD .Add) (mBin idxD (mVar 3) (mLit (.int 1))) (mLit (.int 1))) mNil))) mNil))))) (mBin (binD .Mod) (mVar 0) (mLit (.int 4))))
      [some (.int d), some (.int lo), some (.int hi), some (.ref (S.length + k))] (S ++ T)).wp (fun _ S2 => Q .non (closeD S .non S2).2) (closeR S Q) (fun _ _ => False) (fun _ _ => False) (fun c ks es S2 => E c ks es (closeL S es S2)) := fun {k T a b} ma mb ht => by
    have i0 : idxD (.ref (S.length + k)) (.int 0) (S ++ T) = some (.int a) := idx_any (ds := [.int a, .int b]) (by rw [seqA_ref, ht]) (fun _ h => nomatch h) (by decide) rfl
    have i1 : idxD (.ref (S.length + k)) (.int 1) (S ++ T) = some (.int b) := idx_any (ds := [.int a, .int b]) (by rw [seqA_ref, ht]) (fun _ h => nomatch h) (by decide) rfl
    walk_at "vc"
    iterate 6 ((try simp only [i0, i1]); walk_at "vc")
    walk_at "nm"
    have hc : d % 4 = 0 ∨ d % 4 = 1 ∨ d % 4 = 2 ∨ d % 4 = 3 := by omega
    rcases hc with e | e | e | e <;> rw [e, idx_lst (by decide) rfl]
    · exact closeR_app (by simp) (q (some a) (some b) (inb ma) (inb mb))
    · exact closeR_app (by simp) (q (some a) none (inb ma) inn)
    · exact closeR_app (by simp) (q none (some b) inn (inb mb))
    · exact closeR_app (by simp) (q (some a) (some (b + 1)) (inb ma) (inc mb))
  generalize decide (d % 16 = 15) = c2
  cases c2
  · walk_at "vc"
    walk_at "go"
    exact fin (k := 0) (T := [.lst [.int a, .int b]]) (a := a) (b := b) ma mb (by simp)
  · walk_at "vc"
    walk_at "go"
    exact fin (k := 1) (T := [.lst [.int a, .int b], .lst [.int b, .int a]]) (a := b) (b := a) mb ma (by simp)
def nd : Nat → Nat
  | 0 => 1
  | d + 1 => 1 + 2 * nd d
def wn : Nat → Nat
  | 0 => 8
  | d + 1 => 1 + 2 * wn d
def Bnd (xs : List Int) : Prop := ∀ z ∈ xs, 0 ≤ z ∧ z < 2147483399
theorem idx_of3 {a b : Int} {S : Store} {f : Bool} : idxD (.lst [.int a, .int b]) (.int ((if f = true then 1 else 0 : Nat) : Nat)) S = some (.int (if f = true then b else a)) := by
  cases f
  · exact idx_lst (by decide) rfl
  · exact idx_lst (by decide) rfl
theorem int_bl' {S : Store} {b : Bool} : bltD .int [.bl b] S = some (.int ((if b = true then 1 else 0 : Nat) : Nat)) := by cases b <;> rfl
section
variable {N : Env' → Store → Prop} {R : D → Store → Prop} {B C : Env' → Store → Prop} {X : XP}
theorem pop_asg {i j c : Nat} {ρ : Env'} {S : Store} {x : Int} {ds : List D} (hv : ρ[j]? = some (some (.ref c))) (h : S[c]? = some (.lst (.int x :: ds))) (q : N (ρ.set i (some (.int x))) (S.set c (.lst ds))) : (sAsg (bName i) (mPopAt (mVar j) (mLit (.int 0))) ρ S).wp N R B C X := by
  rw [x_asg, sw_s]; exact pop0_wp hv h q
end
theorem nd_pos : ∀ d, 0 < nd d
  | 0 => by decide
  | d + 1 => by unfold nd; omega
theorem hgen_wp : ∀ (deep k : Nat), deep < k → ∀ {S : Store} {c : Nat} {xs : List Int} {Q : D → Store → Prop} {E : XP}, S[c]? = some (.lst (xs.map .int)) → nd deep ≤ xs.length → Bnd xs →
    (∀ (t : HT) (ys : List Int), t.Ok → t.dep ≤ deep → xs.length ≤ ys.length + nd deep → Bnd ys → Q t.d (S.set c (.lst (ys.map .int)))) → (f__law_hand_test k [.ref c, .int deep] S).wp Q E := by
  intro deep
  induction deep using Nat.strongRecOn with
  | _ deep ih =>
  intro k hk S c xs Q E hc hn hb q
  have hpos := nd_pos deep
  cases k with
  | zero => omega
  | succ k =>
  cases xs with
  | nil => simp at hn; omega
  | cons x rest =>
  obtain ⟨x0, x1⟩ := hb x (by simp)
  have hbr : Bnd rest := fun z hz => hb z (by simp [hz])
  rw [List.length_cons] at hn q
  refine run_wp ?_
  walk_at "vc"
  unfold m__law_hand_test
  refine sw_seq fun N hN => ?_
  refine pop_asg (c := c) rfl hc ?_
  walk_at "go"
  obtain ⟨S1, hS1⟩ : ∃ S1, S1 = S.set c (.lst (rest.map .int)) := ⟨_, rfl⟩
  have hc1 : S1[c]? = some (.lst (rest.map .int)) := by rw [hS1]; exact get_set hc
  have hset : ∀ y, S1.set c y = S.set c y := fun y => by rw [hS1, List.set_set]
  rw [← hS1]
  walk_at "nx"
  have leaf : N [some (.ref c), some (.int deep), some (.int x), none, none, none, none, none] S1 := by
    have done : ∀ {t : HT} {T : Store}, t.Ok → t.dep = 0 → closeR S Q t.d (S1 ++ T) := fun {t T} h1 h2 => by
      rw [hS1]
      exact closeR_cell lo_ints (HT.lo t) (q t rest h1 (by omega) (by omega) hbr)
    walk_at "go"
    walk_at "nx"
    walk_at "nm"
    refine bounds_wp (by decide) fun lo hi _ _ => ?_
    walk_at "vc"
    walk_at "go"
    walk_at "nx"
    walk_at "nm"
    walk_at "go"
    generalize decide (x / 5 % 3 = 2) = far
    walk_at "nx"
    walk_at "nm"
    rw [int_bl']
    walk_at "vc"
    rw [idx_of3]
    walk_at "vc"
    rw [if_pos (by cases far <;> decide)]
    walk_at "vc"
    walk_at "nm"
    simp only [box_bd]
    walk_at "vc"
    walk_at "nm"
    walk_at "go"
    walk_at "vc"
    walk_at "nm"
    rw [cat_ref (by show 6 ≤ sizeLine; decide)]
    walk_at "vc"
    walk_at "nm"
    have k0 := Int.emod_nonneg (x / 3) (b := 6) (by decide)
    have k1 := Int.emod_lt_of_pos (x / 3) (b := 6) (by decide)
    have a0 := Int.emod_nonneg (x / 18) (b := 3) (by decide)
    have a1 := Int.emod_lt_of_pos (x / 18) (b := 3) (by decide)
    have b0 := Int.emod_nonneg (x / 18) (b := 2) (by decide)
    have b1 := Int.emod_lt_of_pos (x / 18) (b := 2) (by decide)
    have hcs : x / 3 % 6 = 0 ∨ x / 3 % 6 = 1 ∨ x / 3 % 6 = 2 ∨ x / 3 % 6 = 3 ∨ x / 3 % 6 = 4 ∨ x / 3 % 6 = 5 := by omega
    rcases hcs with e | e | e | e | e | e <;> rw [e, idx_lst (by decide) rfl]
    · exact done (t := .at _) (by have h1 := Int.emod_nonneg (x / 18) (b := if far = true then 61 else 7) (by cases far <;> decide); have h2 := Int.emod_lt_of_pos (x / 18) (b := if far = true then 61 else 7) (by cases far <;> decide); refine ⟨h1, ?_⟩; cases far <;> simp at h2 ⊢ <;> omega) rfl
    · exact done (t := .num _ lo hi) ⟨a0, a1⟩ rfl
    · exact done (t := .has _) ⟨a0, a1⟩ rfl
    · exact done (t := .fallen) trivial rfl
    · exact done (t := .many _ _) ⟨⟨b0, b1⟩, Int.emod_nonneg _ (by decide), by have := Int.emod_lt_of_pos (x / 36) (b := 7) (by decide); omega⟩ rfl
    · exact done (t := .bell) trivial rfl
  by_cases hd : (0 : Int) < deep
  · rw [decide_eq_true hd]
    walk_at "vc"
    walk_at "nm"
    by_cases h3 : x % 3 = 0
    · rw [decide_eq_true h3]
      walk_at "vc"
      clear leaf
      obtain ⟨d, rfl⟩ : ∃ d, deep = d + 1 := ⟨deep - 1, by omega⟩
      have hnd : nd (d + 1) = 1 + 2 * nd d := rfl
      have e1 : ((d + 1 : Nat) : Int) - 1 = (d : Nat) := by push_cast; omega
      walk_at "nx"
      walk_at "nm"
      have k0 := Int.emod_nonneg (x / 3) (b := 4) (by decide)
      have k1 := Int.emod_lt_of_pos (x / 3) (b := 4) (by decide)
      have hcs : x / 3 % 4 = 0 ∨ x / 3 % 4 = 1 ∨ x / 3 % 4 = 2 ∨ x / 3 % 4 = 3 := by omega
      have two : ∀ {w : Str} {f : HT → HT → HT}, (∀ t u, (f t u).d = .tup [.str w, t.d, u.d]) → (∀ t u, t.Ok → u.Ok → (f t u).Ok) → (∀ t u, (f t u).dep = max t.dep u.dep + 1) →
          (sRet (mTup (mCons (mVar 3) (mCons (mCall 2 (f__law_hand_test k) (mCons (mVar 0) (mCons (mBin (binD .Sub) (mVar 1) (mLit (.int 1))) mNil))) (mCons (mCall 2 (f__law_hand_test k) (mCons (mVar 0) (mCons (mBin (binD .Sub) (mVar 1) (mLit (.int 1))) mNil))) mNil))))
            [some (.ref c), some (.int ((d + 1 : Nat) : Int)), some (.int x), some (.str w), none, none, none, none] S1).wp (fun ρ S => False) (closeR S Q) (fun _ _ => False) (fun _ _ => False) (fun c ks es S2 => E c ks es (closeL S es S2)) := fun {w f} f1 f2 f3 => by
        walk_at "vc"
        rw [e1]
        refine ih d (by omega) k (by omega) hc1 (by omega) hbr fun t ys t1 t2 t3 t4 => ?_
        walk_at "vc"
        rw [hset]
        refine ih d (by omega) k (by omega) (get_set hc) (by omega) t4 fun u zs u1 u2 u3 u4 => ?_
        walk_at "vc"
        simp only [HT.box, List.set_set]
        rw [← f1]
        exact closeR_cell0 lo_ints (HT.lo _) (q _ zs (f2 _ _ t1 u1) (by rw [f3]; omega) (by omega) u4)
      have toN : ∀ {r : SOut} {N' : Env' → Store → Prop}, r.wp (fun ρ S => False) (closeR S Q) (fun _ _ => False) (fun _ _ => False) (fun c ks es S2 => E c ks es (closeL S es S2)) → r.wp N' (closeR S Q) (fun _ _ => False) (fun _ _ => False) (fun c ks es S2 => E c ks es (closeL S es S2)) := fun h => h.imp (fun _ _ z => z.elim) (fun _ _ z => z) (fun _ _ z => z) (fun _ _ z => z) (fun _ _ _ _ z => z)
      rcases hcs with e | e | e | e <;> rw [e, idx_lst (by decide) rfl]
      · walk_at "vc"
        walk_at "go"
        walk_at "nx"
        walk_at "sq"
        walk_at "vc"
        rw [e1]
        refine ih d (by omega) k (by omega) hc1 (by omega) hbr fun t ys t1 t2 t3 t4 => ?_
        walk_at "vc"
        simp only [HT.box, hset]
        exact closeR_cell0 lo_ints (HT.lo (.not t)) (q (.not t) ys t1 (by show t.dep + 1 ≤ d + 1; omega) (by omega) t4)
      · walk_at "vc"
        walk_at "go"
        walk_at "if0"
        exact toN (two (f := .both) (fun _ _ => rfl) (fun _ _ a b => ⟨a, b⟩) (fun _ _ => rfl))
      · walk_at "vc"
        walk_at "go"
        walk_at "if0"
        exact toN (two (f := .either) (fun _ _ => rfl) (fun _ _ a b => ⟨a, b⟩) (fun _ _ => rfl))
      · walk_at "vc"
        walk_at "go"
        walk_at "if0"
        exact toN (two (f := .both) (fun _ _ => rfl) (fun _ _ a b => ⟨a, b⟩) (fun _ _ => rfl))
    · rw [decide_eq_false h3]
      walk_at "vc"
      exact leaf
  · rw [decide_eq_false hd]
    walk_at "vc"
    exact leaf
end Ev.K45
namespace Ev.K45
open PySem PySem.Spec PyProof.Rows L2 Ev
theorem idx_two {a b : Int} {i : Int} {S : Store} (h0 : 0 ≤ i) (h1 : i < 2) : ∃ z, (z = a ∨ z = b) ∧ idxD (.lst [.int a, .int b]) (.int i) S = some (.int z) := by
  have : i = 0 ∨ i = 1 := by omega
  rcases this with rfl | rfl
  · exact ⟨a, .inl rfl, idx_lst (by decide) rfl⟩
  · exact ⟨b, .inr rfl, idx_lst (by decide) rfl⟩
/-- of roles below rn -/
def WT.In (rn : Int) : WT → Prop
  | .count r _ _ _ => 0 ≤ r ∧ r < rn
  | .letters _ _ _ => True
  | .not t => t.In rn
  | .both t u => t.In rn ∧ u.In rn
  | .either t u => t.In rn ∧ u.In rn
theorem wn_8 : ∀ d, 8 ≤ wn d
  | 0 => by decide
  | d + 1 => by unfold wn; have := wn_8 d; omega
section
variable {N : Env' → Store → Prop} {R : D → Store → Prop} {B C : Env' → Store → Prop} {X : XP}
theorem wgen_m {rn deep k : Nat} (hr : 0 < rn) (ih : ∀ d < deep, ∀ {S : Store} {c : Nat} {xs : List Int} {Q : D → Store → Prop} {E : XP}, S[c]? = some (.lst (xs.map .int)) → wn d ≤ xs.length → Bnd xs →
    (∀ (t : WT) (ys : List Int), t.Ok → t.In rn → t.dep ≤ d → xs.length ≤ ys.length + wn d → Bnd ys → Q t.d (S.set c (.lst (ys.map .int)))) → (f__law_test k [.ref c, .int rn, .int d] S).wp Q E)
    {S : Store} {c : Nat} {xs : List Int} (hc : S[c]? = some (.lst (xs.map .int))) (hn : wn deep ≤ xs.length) (hb : Bnd xs)
    (q : ∀ (t : WT) (ys : List Int), t.Ok → t.In rn → t.dep ≤ deep → xs.length ≤ ys.length + wn deep → Bnd ys → ∀ T, R t.d (S.set c (.lst (ys.map .int)) ++ T)) :
    (m__law_test (f__law_test k) [some (.ref c), some (.int rn), some (.int deep), none, none, none, none] S).wp N R B C X := by
  have hpos := wn_8 deep
  have q0 : ∀ {d : D} {U : Store}, R d (U ++ []) → R d U := fun h => by rwa [List.append_nil] at h
  cases xs with
  | nil => simp at hn; omega
  | cons x rest =>
  obtain ⟨x0, x1⟩ := hb x (by simp)
  have hbr : Bnd rest := fun z hz => hb z (by simp [hz])
  rw [List.length_cons] at hn q
  unfold m__law_test
  refine sw_seq fun N hN => ?_
  refine pop_asg (c := c) rfl hc ?_
  walk_at "go"
  obtain ⟨S1, hS1⟩ : ∃ S1, S1 = S.set c (.lst (rest.map .int)) := ⟨_, rfl⟩
  have hc1 : S1[c]? = some (.lst (rest.map .int)) := by rw [hS1]; exact get_set hc
  have hset : ∀ y, S1.set c y = S.set c y := fun y => by rw [hS1, List.set_set]
  rw [← hS1]
  walk_at "nx"
  have leaf : N [some (.ref c), some (.int rn), some (.int deep), some (.int x), none, none, none] S1 := by
    walk_at "go"
    walk_at "nx"
    walk_at "nm"
    have k0 := Int.emod_nonneg (x / 7) (b := 2) (by decide)
    have k1 := Int.emod_lt_of_pos (x / 7) (b := 2) (by decide)
    obtain ⟨z, hz, e⟩ := idx_two (a := 3) (b := 5) (S := S1) k0 k1
    rw [e]
    walk_at "vc"
    refine bounds_wp (by rcases hz with rfl | rfl <;> decide) fun lo hi hlo hhi => ?_
    have hlo : InB 0 6 lo := fun w hw => by have := hlo w hw; rcases hz with rfl | rfl <;> omega
    have hhi : InB 0 6 hi := fun w hw => by have := hhi w hw; rcases hz with rfl | rfl <;> omega
    walk_at "vc"
    walk_at "go"
    walk_at "nx"
    walk_at "nm"
    generalize decide (x / 3 % 3 = 0) = c2
    cases c2
    · walk_at "vc"
      walk_at "go"
      walk_at "vc"
      walk_at "nm"
      rw [if_pos (show (0 : Int) < rn by omega)]
      walk_at "vc"
      have r0 := Int.emod_nonneg (x / 9) (b := (rn : Int)) (by omega)
      have r1 := Int.emod_lt_of_pos (x / 9) (show (0 : Int) < rn by omega)
      rw [show (2 : Int) = ((2 : Nat) : Int) from rfl]
      refine hgen_wp 2 37 (by decide) hc1 (by show 7 ≤ _; omega) hbr fun t ys t1 t2 t3 t4 => ?_
      have t3 : rest.length ≤ ys.length + 7 := t3
      walk_at "vc"
      simp only [HT.box, box_bd, hset]
      exact q0 (q (.count _ t lo hi) ys ⟨⟨t1, by omega⟩, hlo, hhi⟩ ⟨r0, r1⟩ (Nat.zero_le _) (by omega) t4 [])
    · walk_at "vc"
      walk_at "nm"
      simp only [box_bd]
      rw [hS1]
      exact q0 (q (.letters _ lo hi) rest ⟨by have h1 := Int.emod_nonneg (x / 9) (b := 3) (by decide); have h2 := Int.emod_lt_of_pos (x / 9) (b := 3) (by decide); omega, hlo, hhi⟩ trivial (Nat.zero_le _) (by omega) hbr [])
  by_cases hd : (0 : Int) < deep
  · rw [decide_eq_true hd]
    walk_at "vc"
    walk_at "nm"
    by_cases h3 : x % 3 = 0
    · rw [decide_eq_true h3]
      walk_at "vc"
      clear leaf
      obtain ⟨d, rfl⟩ : ∃ d, deep = d + 1 := ⟨deep - 1, by omega⟩
      have hnd : wn (d + 1) = 1 + 2 * wn d := rfl
      have e1 : ((d + 1 : Nat) : Int) - 1 = (d : Nat) := by push_cast; omega
      walk_at "nx"
      walk_at "nm"
      have k0 := Int.emod_nonneg (x / 3) (b := 4) (by decide)
      have k1 := Int.emod_lt_of_pos (x / 3) (b := 4) (by decide)
      have hcs : x / 3 % 4 = 0 ∨ x / 3 % 4 = 1 ∨ x / 3 % 4 = 2 ∨ x / 3 % 4 = 3 := by omega
      have two : ∀ {w : Str} {f : WT → WT → WT}, (∀ t u, (f t u).d = .tup [.str w, t.d, u.d]) → (∀ t u, t.Ok → u.Ok → (f t u).Ok) → (∀ t u, t.In rn → u.In rn → (f t u).In rn) → (∀ t u, (f t u).dep = max t.dep u.dep + 1) →
          (sRet (mTup (mCons (mVar 4) (mCons (mCall 3 (f__law_test k) (mCons (mVar 0) (mCons (mVar 1) (mCons (mBin (binD .Sub) (mVar 2) (mLit (.int 1))) mNil)))) (mCons (mCall 3 (f__law_test k) (mCons (mVar 0) (mCons (mVar 1) (mCons (mBin (binD .Sub) (mVar 2) (mLit (.int 1))) mNil)))) mNil))))
            [some (.ref c), some (.int rn), some (.int ((d + 1 : Nat) : Int)), some (.int x), some (.str w), none, none] S1).wp (fun ρ S => False) R B C X := fun {w f} f1 f2 f2' f3 => by
        walk_at "vc"
        rw [e1]
        refine ih d (by omega) hc1 (by omega) hbr fun t ys t1 t1' t2 t3 t4 => ?_
        walk_at "vc"
        rw [hset]
        refine ih d (by omega) (get_set hc) (by omega) t4 fun u zs u1 u1' u2 u3 u4 => ?_
        walk_at "vc"
        simp only [WT.box, List.set_set]
        rw [← f1]
        exact q0 (q _ zs (f2 _ _ t1 u1) (f2' _ _ t1' u1') (by rw [f3]; omega) (by omega) u4 [])
      have toN : ∀ {r : SOut} {N' : Env' → Store → Prop}, r.wp (fun ρ S => False) R B C X → r.wp N' R B C X := fun h => h.imp (fun _ _ z => z.elim) (fun _ _ z => z) (fun _ _ z => z) (fun _ _ z => z) (fun _ _ _ _ z => z)
      rcases hcs with e | e | e | e <;> rw [e, idx_lst (by decide) rfl]
      · walk_at "vc"
        walk_at "go"
        walk_at "nx"
        walk_at "sq"
        walk_at "vc"
        rw [e1]
        refine ih d (by omega) hc1 (by omega) hbr fun t ys t1 t1' t2 t3 t4 => ?_
        walk_at "vc"
        simp only [WT.box, hset]
        exact q0 (q (.not t) ys t1 t1' (by show t.dep + 1 ≤ d + 1; omega) (by omega) t4 [])
      · walk_at "vc"
        walk_at "go"
        walk_at "if0"
        exact toN (two (f := .both) (fun _ _ => rfl) (fun _ _ a b => ⟨a, b⟩) (fun _ _ a b => ⟨a, b⟩) (fun _ _ => rfl))
      · walk_at "vc"
        walk_at "go"
        walk_at "if0"
        exact toN (two (f := .either) (fun _ _ => rfl) (fun _ _ a b => ⟨a, b⟩) (fun _ _ a b => ⟨a, b⟩) (fun _ _ => rfl))
      · walk_at "vc"
        walk_at "go"
        walk_at "if0"
        exact toN (two (f := .either) (fun _ _ => rfl) (fun _ _ a b => ⟨a, b⟩) (fun _ _ a b => ⟨a, b⟩) (fun _ _ => rfl))
    · rw [decide_eq_false h3]
      walk_at "vc"
      exact leaf
  · rw [decide_eq_false hd]
    walk_at "vc"
    exact leaf
end
theorem wgen_wp {rn : Nat} (hr : 0 < rn) : ∀ (deep k : Nat), deep < k → ∀ {S : Store} {c : Nat} {xs : List Int} {Q : D → Store → Prop} {E : XP}, S[c]? = some (.lst (xs.map .int)) → wn deep ≤ xs.length → Bnd xs →
    (∀ (t : WT) (ys : List Int), t.Ok → t.In rn → t.dep ≤ deep → xs.length ≤ ys.length + wn deep → Bnd ys → Q t.d (S.set c (.lst (ys.map .int)))) → (f__law_test k [.ref c, .int rn, .int deep] S).wp Q E := by
  intro deep
  induction deep using Nat.strongRecOn with
  | _ deep ih =>
  intro k hk S c xs Q E hc hn hb q
  cases k with
  | zero => omega
  | succ k =>
  refine run_wp ?_
  walk_at "vc"
  exact wgen_m hr (fun d hd => ih d hd k (by omega)) hc hn hb fun t ys h1 h2 h3 h4 h5 T => closeR_cell lo_ints (WT.lo t) (q t ys h1 h2 h3 h4 h5)
end Ev.K45
namespace Ev.K45
open PySem PySem.Spec PyProof.Rows L2 Ev
/-! claims looked over: what is told of any thing -/
/-- a thing that may be read: plain, or lists within, so deep at most -/
inductive Rd : Store → Nat → D → Prop
  | non {S : Store} {k : Nat} : Rd S k .non
  | bl {S : Store} {k : Nat} (b : Bool) : Rd S k (.bl b)
  | int {S : Store} {k : Nat} (i : Int) : Rd S k (.int i)
  | str {S : Store} {k : Nat} (x : Str) : PyData.strOk x = true → Rd S k (.str x)
  | tup {S : Store} {k : Nat} (ds : List D) : ds.length ≤ 1000 → (∀ d ∈ ds, Rd S k d) → Rd S (k + 1) (.tup ds)
  | ref {S : Store} {k : Nat} (n : Nat) (ds : List D) : S[n]? = some (.lst ds) → (∀ d ∈ ds, ∀ U, Rd U k d) → Rd S (k + 1) (.ref n)
theorem Rd.up {S : Store} {k m : Nat} {d : D} (h : Rd S k d) : k ≤ m → Rd S m d := by
  intro hm
  induction h generalizing m with
  | non => exact .non
  | bl b => exact .bl b
  | int i => exact .int i
  | str x h => exact .str x h
  | tup ds hl _ ih =>
    obtain ⟨m, rfl⟩ : ∃ j, m = j + 1 := ⟨m - 1, by omega⟩
    exact .tup ds hl fun d hd => ih d hd (by omega)
  | ref n ds e _ ih =>
    obtain ⟨m, rfl⟩ : ∃ j, m = j + 1 := ⟨m - 1, by omega⟩
    exact .ref n ds e fun d hd U => ih d hd U (by omega)
theorem Rd.app {S : Store} {k : Nat} {d : D} (T : Store) (h : Rd S k d) : Rd (S ++ T) k d := by
  induction h with
  | non => exact .non
  | bl b => exact .bl b
  | int i => exact .int i
  | str x h => exact .str x h
  | tup ds hl _ ih => exact .tup ds hl ih
  | ref n ds e h _ => exact .ref n ds (by rw [List.getElem?_append_left (List.getElem?_eq_some_iff.mp e).1]; exact e) h
theorem Rd.box {S U : Store} {k : Nat} {d : D} (h : Rd S k d) : box d U = (d, U) := by cases h <;> rfl
def isW (w : Str) : D → Bool
  | .str x => decide (x = w)
  | _ => false
theorem mapM_ex {α β : Type} {f : α → Option β} {P : β → Prop} : ∀ {xs : List α}, (∀ x ∈ xs, ∃ y, f x = some y ∧ P y) → ∃ ys, xs.mapM f = some ys ∧ ∀ y ∈ ys, P y
  | [], _ => ⟨[], rfl, fun _ h => nomatch h⟩
  | x :: xs, h => by
    obtain ⟨y, e, p⟩ := h x List.mem_cons_self
    obtain ⟨ys, e2, p2⟩ := mapM_ex (xs := xs) fun z hz => h z (List.mem_cons_of_mem _ hz)
    refine ⟨y :: ys, by rw [List.mapM_cons, e, e2]; rfl, fun z hz => ?_⟩
    rcases List.mem_cons.mp hz with rfl | hz
    · exact p
    · exact p2 z hz
theorem mapM_len {α β : Type} {f : α → Option β} : ∀ {xs : List α} {ys : List β}, xs.mapM f = some ys → ys.length = xs.length
  | [], ys, e => by cases e; rfl
  | x :: xs, ys, e => by
    rw [List.mapM_cons] at e
    cases h1 : f x with
    | none => rw [h1] at e; cases e
    | some p =>
      cases h2 : xs.mapM f with
      | none => rw [h1, h2] at e; cases e
      | some qs => rw [h1, h2] at e; cases e; rw [List.length_cons, List.length_cons, mapM_len h2]
theorem Shp.str {n : Nat} {x : Str} (h : PyData.strOk x = true) : Shp n (.str x) := by unfold Shp PyData.canLay0 PyData.depth; exact ⟨h, Nat.zero_le _⟩
def isNil : D → Bool
  | .tup [] => true
  | _ => false
theorem Rd.py {S : Store} {k : Nat} {d : D} (h : Rd S k d) : ∀ {n : Nat}, k < n → ∃ p, py S n d = some p ∧ Shp k p ∧ (∀ w, PyData.eqv p (.str w) = isW w d) ∧ (PyData.eqv p (.tuple []) = isNil d) := by
  induction h with
  | non => intro n hn; obtain ⟨n, rfl⟩ : ∃ j, n = j + 1 := ⟨n - 1, by omega⟩; exact ⟨.none, rfl, .none, fun w => by simp [PyData.eqv, isW], by simp [PyData.eqv, isNil]⟩
  | bl b => intro n hn; obtain ⟨n, rfl⟩ : ∃ j, n = j + 1 := ⟨n - 1, by omega⟩; exact ⟨.bool b, rfl, .bool, fun w => by simp [PyData.eqv, isW], by simp [PyData.eqv, isNil]⟩
  | int i => intro n hn; obtain ⟨n, rfl⟩ : ∃ j, n = j + 1 := ⟨n - 1, by omega⟩; exact ⟨.int i, rfl, .int, fun w => by simp [PyData.eqv, isW], by simp [PyData.eqv, isNil]⟩
  | str x hx => intro n hn; obtain ⟨n, rfl⟩ : ∃ j, n = j + 1 := ⟨n - 1, by omega⟩; exact ⟨.str x, rfl, Shp.str hx, fun w => by simp only [PyData.eqv, isW]; first | rfl | exact beq_eq_decide _ _, by simp [PyData.eqv, isNil]⟩
  | @tup S k ds hl _ ih =>
    intro n hn
    obtain ⟨n, rfl⟩ : ∃ j, n = j + 1 := ⟨n - 1, by omega⟩
    obtain ⟨ps, e, hp⟩ := mapM_ex (f := Ev.py S n) (P := Shp k) fun x hx => let ⟨p, a, b, _⟩ := ih x hx (n := n) (by omega); ⟨p, a, b⟩
    have hlen : ps.length = ds.length := mapM_len e
    refine ⟨.tuple ps, by show (ds.mapM (Ev.py S n)).map PyData.tuple = _; rw [e]; rfl, .tuple hp, fun w => by simp [PyData.eqv, isW], ?_⟩
    cases ds with
    | nil => cases ps with
      | nil => simp [PyData.eqv, PyData.eqvAll, isNil]
      | cons _ _ => simp at hlen
    | cons d ds => cases ps with
      | nil => simp at hlen
      | cons _ _ => simp [PyData.eqv, PyData.eqvAll, isNil]
  | @ref S k m ds e0 _ ih =>
    intro n hn
    obtain ⟨n, rfl⟩ : ∃ j, n = j + 1 := ⟨n - 1, by omega⟩
    obtain ⟨ps, e, hp⟩ := mapM_ex (f := Ev.py S n) (P := Shp k) fun x hx => let ⟨p, a, b, _⟩ := ih x hx S (n := n) (by omega); ⟨p, a, b⟩
    refine ⟨.list ps, ?_, .list hp, fun w => by simp [PyData.eqv, isW], by simp [PyData.eqv, isNil]⟩
    rw [py_lst (by rw [seqL_ref, e0]), e]; rfl
theorem Rd.eqS {S : Store} {k : Nat} {d : D} {w : Str} (h : Rd S k d) (hk : k ≤ 64) (hw : PyData.strOk w = true) : eqD S d (.str w) = some (isW w d) := by
  obtain ⟨p, h1, h2, h3, _⟩ := h.py (n := 66) (by omega)
  rw [eqD_shp h1 (q := .str w) rfl h2 (Shp.str (n := 0) hw) hk (by decide), h3]
theorem Rd.eqT {S : Store} {k : Nat} {d : D} (h : Rd S k d) (hk : k ≤ 64) : eqD S d (.tup []) = some (isNil d) := by
  obtain ⟨p, h1, h2, _, h3⟩ := h.py (n := 66) (by omega)
  rw [eqD_shp h1 (q := .tuple []) rfl h2 (.tuple (n := 0) fun _ h => nomatch h) hk (by decide), h3]
/-! ### what is asked -/
def toldB (w : Str) (n : Nat) : D → Bool
  | .tup ds => decide (ds.length = n + 1) && (ds.head?.map (isW w)).getD false
  | _ => false
def arg (d : D) (i : Nat) : D := match d with
  | .tup ds => ds[i]?.getD .non
  | _ => .non
def wholeB : D → Bool
  | .int _ => true
  | _ => false
def fromB (lo hi : Int) : D → Bool
  | .int i => decide (lo ≤ i) && decide (i ≤ hi)
  | _ => false
def boundB (lo hi : Option Int) : D → Bool
  | .non => true
  | .int i => (match lo with | some l => decide (l ≤ i) | none => true) && (match hi with | some h => decide (i ≤ h) | none => true)
  | _ => false
def boxB (d : D) : Bool :=
  if toldB "at" 1 d = true then fromB 0 60 (arg d 1)
  else if toldB "number" 3 d = true then fromB 0 2 (arg d 1) && (boundB none none (arg d 2) && boundB none none (arg d 3))
  else if toldB "has" 1 d = true then fromB 0 2 (arg d 1)
  else if toldB "many" 2 d = true then fromB 0 1 (arg d 1) && fromB 0 6 (arg d 2)
  else toldB "bell" 0 d || toldB "fallen" 0 d
def joinB (f : D → Bool) (d : D) : Bool :=
  if toldB "not" 1 d = true then f (arg d 1)
  else if (toldB "both" 2 d || toldB "either" 2 d) = true then f (arg d 1) && f (arg d 2)
  else false
def handB : Nat → D → Bool
  | 0, _ => false
  | k + 1, d => boxB d || joinB (handB k) d
def testB (n : Int) : Nat → D → Bool
  | 0, _ => false
  | k + 1, d =>
    if toldB "count" 4 d = true then (fromB 0 (n - 1) (arg d 1) && handB 37 (arg d 2)) && (boundB (some 0) (some 6) (arg d 3) && boundB (some 0) (some 6) (arg d 4))
    else if toldB "letters" 3 d = true then fromB 1 12 (arg d 1) && (boundB (some 0) none (arg d 2) && boundB (some 0) none (arg d 3))
    else joinB (testB n k) d
def claimB (n : Int) (d : D) : Bool :=
  if toldB "never" 1 d = true then testB n 37 (arg d 1)
  else if (toldB "behind" 2 d || toldB "comes" 2 d) = true then testB n 37 (arg d 1) && testB n 37 (arg d 2)
  else false
theorem told_ex {w : Str} {n : Nat} {d : D} (h : toldB w n d = true) : ∃ ds, d = .tup (.str w :: ds) ∧ ds.length = n := by
  cases d with
  | tup ds =>
    unfold toldB at h
    rw [Bool.and_eq_true, decide_eq_true_eq] at h
    cases ds with
    | nil => simp at h
    | cons x ds =>
      obtain ⟨h1, h2⟩ := h
      have h2 : isW w x = true := h2
      cases x with
      | str y =>
        have e : y = w := of_decide_eq_true h2
        subst e
        exact ⟨ds, rfl, by simpa using h1⟩
      | _ => cases h2
  | _ => cases h
section
variable {S : Store} {Q : D → Store → Prop} {E : XP} {k : Nat} {d : D}
theorem told_wp {w : Str} {n : Nat} (hw : PyData.strOk w = true) (hd : Rd S k d) (hk : k ≤ 60) (q : Q (.bl (toldB w n d)) S) : (f_is_told [d, .str w, .int n] S).wp Q E := by
  refine run_wp ?_
  walk_at "vc"
  simp only [hd.box]
  walk_at "vc"
  unfold m_is_told
  cases hd with
  | non => walk_at "vc"; exact closeR_same q
  | bl b => walk_at "vc"; exact closeR_same q
  | int b => walk_at "vc"; exact closeR_same q
  | str b => walk_at "vc"; exact closeR_same q
  | ref m ds e => walk_at "vc"; rw [e]; walk_at "vc"; exact closeR_same q
  | @tup _ j ds hl hh =>
    walk_at "vc"
    rw [blt_lenA (d := .tup ds) rfl (fun _ h => nomatch h)]
    walk_at "vc"
    unfold toldB at q
    dsimp only at q
    by_cases hn : ds.length = n + 1
    · rw [decide_eq_true (show ((ds.length : Nat) : Int) = (n : Nat) + 1 by omega)]
      rw [decide_eq_true hn, Bool.true_and] at q
      walk_at "vc"
      cases ds with
      | nil => simp at hn
      | cons x ds =>
        rw [idxT_0]
        walk_at "vc"
        rw [(hh x List.mem_cons_self).eqS (by omega) hw]
        walk_at "vc"
        exact closeR_same q
    · rw [decide_eq_false (show ¬ ((ds.length : Nat) : Int) = (n : Nat) + 1 by omega)]
      rw [decide_eq_false hn, Bool.false_and] at q
      walk_at "vc"
      exact closeR_same q
theorem whole_wp (hd : Rd S k d) (q : Q (.bl (wholeB d)) S) : (f_is_whole [d] S).wp Q E := by
  refine run_wp ?_
  cases hd with
  | non => walk_at "vc"; unfold m_is_whole; walk_at "vc"; exact closeR_same q
  | bl b => walk_at "vc"; unfold m_is_whole; walk_at "vc"; exact closeR_same q
  | int b => walk_at "vc"; unfold m_is_whole; walk_at "vc"; exact closeR_same q
  | str b => walk_at "vc"; unfold m_is_whole; walk_at "vc"; exact closeR_same q
  | tup b => walk_at "vc"; unfold m_is_whole; walk_at "vc"; exact closeR_same q
  | ref n ds e => walk_at "vc"; unfold m_is_whole; walk_at "vc"; rw [e]; walk_at "vc"; exact closeR_same q
theorem from_wp {lo hi : Int} (hd : Rd S k d) (q : Q (.bl (fromB lo hi d)) S) : (f_is_from [d, .int lo, .int hi] S).wp Q E := by
  refine run_wp ?_
  walk_at "vc"
  simp only [hd.box]
  walk_at "vc"
  unfold m_is_from
  walk_at "vc"
  refine whole_wp hd ?_
  cases hd with
  | int i =>
    simp only [wholeB, fromB] at q ⊢
    walk_at "vc"
    by_cases h1 : lo ≤ i
    · rw [decide_eq_true h1] at q ⊢
      walk_at "vc"
      rw [Bool.true_and] at q
      exact closeR_same q
    · rw [decide_eq_false h1] at q ⊢
      walk_at "vc"
      exact closeR_same q
  | _ => simp only [wholeB, fromB] at q ⊢; walk_at "vc"; exact closeR_same q
theorem bound_wp {lo hi : Option Int} (hd : Rd S k d) (q : Q (.bl (boundB lo hi d)) S) : (f_is_bound [d, bdD lo, bdD hi] S).wp Q E := by
  refine run_wp ?_
  walk_at "vc"
  simp only [hd.box, box_bd]
  walk_at "vc"
  unfold m_is_bound
  cases hd with
  | non => walk_at "nx"; exact closeR_same q
  | int i =>
    walk_at "nx"
    walk_at "go"
    walk_at "nx"
    refine whole_wp (k := 0) (.int i) ?_
    simp only [wholeB]
    walk_at "vc"
    unfold boundB at q
    cases lo with
    | none =>
      rw [show bdD none = D.non from rfl]
      walk_at "vc"
      walk_at "go"
      cases hi with
      | none =>
        rw [show bdD none = D.non from rfl]
        walk_at "vc"
        exact closeR_same q
      | some h =>
        rw [show bdD (some h) = D.int h from rfl]
        walk_at "vc"
        exact closeR_same q
    | some l =>
      rw [show bdD (some l) = D.int l from rfl]
      walk_at "vc"
      by_cases hl : i < l
      · rw [decide_eq_true hl]
        walk_at "vc"
        dsimp only at q
        rw [decide_eq_false (show ¬ l ≤ i by omega), Bool.false_and] at q
        exact closeR_same q
      · rw [decide_eq_false hl]
        dsimp only at q
        rw [decide_eq_true (show l ≤ i by omega), Bool.true_and] at q
        walk_at "vc"
        walk_at "go"
        cases hi with
        | none =>
          rw [show bdD none = D.non from rfl]
          walk_at "vc"
          exact closeR_same q
        | some h =>
          rw [show bdD (some h) = D.int h from rfl]
          walk_at "vc"
          exact closeR_same q
  | bl b => walk_at "nx"; walk_at "go"; walk_at "nx"; refine whole_wp (k := 0) (.bl b) ?_; simp only [wholeB]; walk_at "vc"; exact closeR_same q
  | str b hb => walk_at "nx"; walk_at "go"; walk_at "nx"; refine whole_wp (k := 0) (.str b hb) ?_; simp only [wholeB]; walk_at "vc"; exact closeR_same q
  | tup b hl hh => walk_at "nx"; walk_at "go"; walk_at "nx"; refine whole_wp (.tup b hl hh) ?_; simp only [wholeB]; walk_at "vc"; exact closeR_same q
  | ref n ds e hh => walk_at "nx"; walk_at "go"; walk_at "nx"; refine whole_wp (.ref n ds e hh) ?_; simp only [wholeB]; walk_at "vc"; exact closeR_same q
end
end Ev.K45
namespace Ev.K45
open PySem PySem.Spec PyProof.Rows L2 Ev
/-! claims looked over, walked -/
section
variable {S : Store} {Q : D → Store → Prop} {E : XP} {k : Nat} {d : D}
theorem rd_in {ds : List D} (h : Rd S k (.tup ds)) : ∃ j, k = j + 1 ∧ ds.length ≤ 1000 ∧ ∀ x ∈ ds, Rd S j x := by
  cases h with
  | @tup _ j _ hl hh => exact ⟨j, rfl, hl, hh⟩
theorem told_1 {w : Str} (hd : Rd S k d) (h : toldB w 1 d = true) : ∃ a j, d = .tup [.str w, a] ∧ k = j + 1 ∧ Rd S j a := by
  obtain ⟨ds, rfl, hl⟩ := told_ex h
  obtain ⟨j, e, _, hh⟩ := rd_in hd
  match ds, hl with
  | [a], _ => exact ⟨a, j, rfl, e, hh a (by simp)⟩
theorem told_2 {w : Str} (hd : Rd S k d) (h : toldB w 2 d = true) : ∃ a b j, d = .tup [.str w, a, b] ∧ k = j + 1 ∧ Rd S j a ∧ Rd S j b := by
  obtain ⟨ds, rfl, hl⟩ := told_ex h
  obtain ⟨j, e, _, hh⟩ := rd_in hd
  match ds, hl with
  | [a, b], _ => exact ⟨a, b, j, rfl, e, hh a (by simp), hh b (by simp)⟩
theorem told_3 {w : Str} (hd : Rd S k d) (h : toldB w 3 d = true) : ∃ a b c j, d = .tup [.str w, a, b, c] ∧ k = j + 1 ∧ Rd S j a ∧ Rd S j b ∧ Rd S j c := by
  obtain ⟨ds, rfl, hl⟩ := told_ex h
  obtain ⟨j, e, _, hh⟩ := rd_in hd
  match ds, hl with
  | [a, b, c], _ => exact ⟨a, b, c, j, rfl, e, hh a (by simp), hh b (by simp), hh c (by simp)⟩
theorem told_4 {w : Str} (hd : Rd S k d) (h : toldB w 4 d = true) : ∃ a b c e j, d = .tup [.str w, a, b, c, e] ∧ k = j + 1 ∧ Rd S j a ∧ Rd S j b ∧ Rd S j c ∧ Rd S j e := by
  obtain ⟨ds, rfl, hl⟩ := told_ex h
  obtain ⟨j, e, _, hh⟩ := rd_in hd
  match ds, hl with
  | [a, b, c, f], _ => exact ⟨a, b, c, f, j, rfl, e, hh a (by simp), hh b (by simp), hh c (by simp), hh f (by simp)⟩
theorem told_wi {w : Str} {n : Nat} {m : Int} (hm : m = n) (hw : PyData.strOk w = true) (hd : Rd S k d) (hk : k ≤ 60) (q : Q (.bl (toldB w n d)) S) : (f_is_told [d, .str w, .int m] S).wp Q E := by
  subst hm; exact told_wp hw hd hk q
theorem box_wp (hd : Rd S k d) (hk : k ≤ 60) (q : Q (.bl (boxB d)) S) : (f_is_box_test [d] S).wp Q E := by
  refine run_wp ?_
  walk_at "vc"
  simp only [hd.box]
  unfold m_is_box_test
  walk_at "nx"
  refine told_wi (n := 1) rfl (by decide +kernel) hd hk ?_
  walk_at "vc"
  unfold boxB at q
  by_cases h1 : toldB "at" 1 d = true
  · rw [if_pos h1] at q
    rw [h1]
    obtain ⟨a, j, rfl, rfl, ha⟩ := told_1 hd h1
    walk_at "vc"
    refine from_wp ha ?_
    walk_at "vc"
    exact closeR_same q
  rw [if_neg h1] at q
  rw [Bool.not_eq_true] at h1
  rw [h1]
  walk_at "vc"
  walk_at "go"
  walk_at "nx"
  refine told_wi (n := 3) rfl (by decide +kernel) hd hk ?_
  walk_at "vc"
  by_cases h2 : toldB "number" 3 d = true
  · rw [if_pos h2] at q
    rw [h2]
    obtain ⟨a, b, c, j, rfl, rfl, ha, hb, hc⟩ := told_3 hd h2
    simp only [arg, List.getElem?_cons_succ, List.getElem?_cons_zero, Option.getD_some] at q
    walk_at "vc"
    refine from_wp ha ?_
    walk_at "vc"
    by_cases g1 : fromB 0 2 a = true
    · rw [g1] at q ⊢
      walk_at "vc"
      refine bound_wp (lo := none) (hi := none) hb ?_
      rw [Bool.true_and] at q
      by_cases g2 : boundB none none b = true
      · rw [g2] at q ⊢
        walk_at "vc"
        refine bound_wp (lo := none) (hi := none) hc ?_
        walk_at "vc"
        rw [Bool.true_and] at q
        exact closeR_same q
      · rw [Bool.not_eq_true] at g2
        rw [g2] at q ⊢
        walk_at "vc"
        exact closeR_same q
    · rw [Bool.not_eq_true] at g1
      rw [g1] at q ⊢
      walk_at "vc"
      exact closeR_same q
  rw [if_neg h2] at q
  rw [Bool.not_eq_true] at h2
  rw [h2]
  walk_at "vc"
  walk_at "go"
  walk_at "nx"
  refine told_wi (n := 1) rfl (by decide +kernel) hd hk ?_
  walk_at "vc"
  by_cases h3 : toldB "has" 1 d = true
  · rw [if_pos h3] at q
    rw [h3]
    obtain ⟨a, j, rfl, rfl, ha⟩ := told_1 hd h3
    walk_at "vc"
    refine from_wp ha ?_
    walk_at "vc"
    exact closeR_same q
  rw [if_neg h3] at q
  rw [Bool.not_eq_true] at h3
  rw [h3]
  walk_at "vc"
  walk_at "go"
  walk_at "nx"
  refine told_wi (n := 2) rfl (by decide +kernel) hd hk ?_
  walk_at "vc"
  by_cases h4 : toldB "many" 2 d = true
  · rw [if_pos h4] at q
    rw [h4]
    obtain ⟨a, b, j, rfl, rfl, ha, hb⟩ := told_2 hd h4
    simp only [arg, List.getElem?_cons_succ, List.getElem?_cons_zero, Option.getD_some] at q
    walk_at "vc"
    refine from_wp ha ?_
    by_cases g1 : fromB 0 1 a = true
    · rw [g1] at q ⊢
      walk_at "vc"
      refine from_wp hb ?_
      walk_at "vc"
      rw [Bool.true_and] at q
      exact closeR_same q
    · rw [Bool.not_eq_true] at g1
      rw [g1] at q ⊢
      walk_at "vc"
      exact closeR_same q
  rw [if_neg h4] at q
  rw [Bool.not_eq_true] at h4
  rw [h4]
  walk_at "vc"
  walk_at "go"
  walk_at "vc"
  refine told_wi (n := 0) rfl (by decide +kernel) hd hk ?_
  by_cases h5 : toldB "bell" 0 d = true
  · rw [h5] at q ⊢
    walk_at "vc"
    exact closeR_same q
  · rw [Bool.not_eq_true] at h5
    rw [h5] at q ⊢
    walk_at "vc"
    refine told_wi (n := 0) rfl (by decide +kernel) hd hk ?_
    walk_at "vc"
    rw [Bool.false_or] at q
    exact closeR_same q
theorem callF_eq {i n : Nat} {c : Clo} {g : List D → Fn} {cs : List D} {m : M (List D)} {ρ : Env'} {S : Store} (h : ρ[i]? = some (some (.fn c cs))) : mCallF i n c g m ρ S = (m ρ S).bind fun ds S1 => if ds.length = n then g cs ds S1 else .fail := by
  unfold mCallF
  rw [h]
  dsimp only
  rw [if_pos rfl]
theorem runC_wp {body : MS} {n : Nat} {cs ds : List D} (h : (body ((boxL ds S).1.map some ++ (cs.map some ++ List.replicate (n - ds.length - cs.length) none)) (boxL ds S).2).wp (fun _ S2 => Q .non (closeD S .non S2).2) (closeR S Q) (fun _ _ => False) (fun _ _ => False) (fun c ks es S2 => E c ks es (closeL S es S2))) :
    (runC body n cs ds S).wp Q E := by
  unfold runC
  cases q : body ((boxL ds S).1.map some ++ (cs.map some ++ List.replicate (n - ds.length - cs.length) none)) (boxL ds S).2 <;> rw [q] at h <;> exact h
theorem box_fn {c : Clo} {cs : List D} {U : Store} : box (.fn c cs) U = (.fn c cs, U) := rfl
theorem joined_wp {g : List D → Fn} {c : Clo} {cs : List D} {f : D → Bool} (hd : Rd S k d) (hk : k ≤ 60) (hg : ∀ j x, k = j + 1 → Rd S j x → g cs [x] S = .ok (.bl (f x)) S) (q : Q (.bl (joinB f d)) S) : (f_is_joined g c [d, .fn c cs] S).wp Q E := by
  refine run_wp ?_
  walk_at "vc"
  simp only [hd.box, box_fn]
  walk_at "vc"
  unfold m_is_joined
  walk_at "nx"
  refine told_wi (n := 1) rfl (by decide +kernel) hd hk ?_
  walk_at "vc"
  unfold joinB at q
  by_cases h1 : toldB "not" 1 d = true
  · rw [if_pos h1] at q
    rw [h1]
    obtain ⟨a, j, rfl, rfl, ha⟩ := told_1 hd h1
    walk_at "vc"
    rw [callF_eq (cs := cs) rfl]
    walk_at "vc"
    rw [hg j a rfl ha]
    walk_at "vc"
    exact closeR_same q
  rw [if_neg h1] at q
  rw [Bool.not_eq_true] at h1
  rw [h1]
  walk_at "vc"
  walk_at "go"
  walk_at "nx"
  refine told_wi (n := 2) rfl (by decide +kernel) hd hk ?_
  by_cases h2 : toldB "both" 2 d = true
  · rw [h2] at q ⊢
    rw [Bool.true_or, if_pos rfl] at q
    obtain ⟨a, b, j, rfl, rfl, ha, hb⟩ := told_2 hd h2
    simp only [arg, List.getElem?_cons_succ, List.getElem?_cons_zero, Option.getD_some] at q
    walk_at "vc"
    rw [callF_eq (cs := cs) rfl]
    walk_at "vc"
    rw [hg j a rfl ha]
    by_cases g1 : f a = true
    · rw [g1] at q ⊢
      walk_at "vc"
      rw [callF_eq (cs := cs) rfl]
      walk_at "vc"
      rw [hg j b rfl hb]
      walk_at "vc"
      rw [Bool.true_and] at q
      exact closeR_same q
    · rw [Bool.not_eq_true] at g1
      rw [g1] at q ⊢
      walk_at "vc"
      exact closeR_same q
  · rw [Bool.not_eq_true] at h2
    rw [h2] at q ⊢
    rw [Bool.false_or] at q
    walk_at "vc"
    refine told_wi (n := 2) rfl (by decide +kernel) hd hk ?_
    by_cases h3 : toldB "either" 2 d = true
    · rw [h3] at q ⊢
      rw [if_pos rfl] at q
      obtain ⟨a, b, j, rfl, rfl, ha, hb⟩ := told_2 hd h3
      simp only [arg, List.getElem?_cons_succ, List.getElem?_cons_zero, Option.getD_some] at q
      walk_at "vc"
      rw [callF_eq (cs := cs) rfl]
      walk_at "vc"
      rw [hg j a rfl ha]
      by_cases g1 : f a = true
      · rw [g1] at q ⊢
        walk_at "vc"
        rw [callF_eq (cs := cs) rfl]
        walk_at "vc"
        rw [hg j b rfl hb]
        walk_at "vc"
        rw [Bool.true_and] at q
        exact closeR_same q
      · rw [Bool.not_eq_true] at g1
        rw [g1] at q ⊢
        walk_at "vc"
        exact closeR_same q
    · rw [Bool.not_eq_true] at h3
      rw [h3] at q ⊢
      rw [if_neg (by decide)] at q
      walk_at "vc"
      walk_at "go"
      walk_at "vc"
      exact closeR_same q
end
end Ev.K45
namespace Ev.K45
open PySem PySem.Spec PyProof.Rows L2 Ev
/-! tests and claims, looked over -/
section
variable {S : Store} {Q : D → Store → Prop} {E : XP} {k : Nat} {d : D} {ρ : Env'}
theorem callL_eq {n : Nat} {f : Clo → Fn} {tb : Str × Option Str} {nm : Nat → Nat → Str} {js : List Nat} {m : M (List D)} {ds cs : List D} {S1 S' : Store} {d : D} (e : m ρ S = .ok ds S1) (hj : js.mapM (slotD ρ) = some cs) (hn : ds.length + 1 = n) (ht : ∃ k : Nat, S1[k]? = some (Cell.tab tb nm))
    (h : ∀ c : Clo, f c (ds ++ [.fn c cs]) S1 = .ok d S') : mCallL n f tb nm js m ρ S = .ok d S' := by
  unfold mCallL
  rw [e, bind_ok, hj]
  dsimp only
  rw [if_pos ⟨hn, ht⟩]
  exact uni_eq ⟨0, NdefX.NF.of (.Pass ⟨0, 0, 0, 0⟩) "" "" [] 0, [], none⟩ h
/-- the tables stand -/
structure Tabs2 (S : Store) : Prop where
  hand : ∃ i : Nat, S[i]? = some (Cell.tab ("is_hand_test", none) nm_is_hand_test)
  test : ∃ i : Nat, S[i]? = some (Cell.tab ("is_test", none) nm_is_test)
theorem Tabs2.app {T : Store} (h : Tabs2 S) : Tabs2 (S ++ T) :=
  ⟨let ⟨i, e⟩ := h.hand; ⟨i, by rw [List.getElem?_append_left (List.getElem?_eq_some_iff.mp e).1]; exact e⟩, let ⟨i, e⟩ := h.test; ⟨i, by rw [List.getElem?_append_left (List.getElem?_eq_some_iff.mp e).1]; exact e⟩⟩
theorem eq_of_wp {r : Out D} {b : Bool} {S : Store} (w : r.wp (fun d S' => d = .bl b ∧ S' = S) noXP) : r = .ok (.bl b) S := by
  obtain ⟨d, S1, e, rfl, rfl⟩ := w.ex
  exact e
theorem hand_eq (ht : Tabs2 S) : ∀ k ≤ 60, ∀ d, Rd S k d → f_is_hand_test (k + 1) [d] S = .ok (.bl (handB (k + 1) d)) S := by
  intro k
  induction k with
  | zero =>
    intro hk d hd
    refine eq_of_wp ?_
    show (runBody (m_is_hand_test (f_is_hand_test 0)) 1 [d] S).wp _ _
    refine run_wp ?_
    walk_at "vc"
    simp only [hd.box]
    unfold m_is_hand_test
    walk_at "vc"
    refine box_wp hd hk ?_
    unfold handB
    by_cases h1 : boxB d = true
    · rw [h1]
      walk_at "vc"
      exact closeR_same ⟨rfl, rfl⟩
    · rw [Bool.not_eq_true] at h1
      rw [h1]
      walk_at "vc"
      refine wp_eq (callL_eq (n := 2) (f := f_is_joined (g_is_hand_test_lam0 (f_is_hand_test 0))) (ds := [d]) (cs := []) (d := .bl (joinB (handB 0) d)) (S1 := S) (S' := S) (by walk_at "ev") rfl rfl ht.hand fun c => eq_of_wp (joined_wp hd hk (fun j x e _ => nomatch e) ⟨rfl, rfl⟩)) ?_
      walk_at "vc"
      exact closeR_same ⟨rfl, rfl⟩
  | succ k ih =>
    intro hk d hd
    refine eq_of_wp ?_
    show (runBody (m_is_hand_test (f_is_hand_test (k + 1))) 1 [d] S).wp _ _
    refine run_wp ?_
    walk_at "vc"
    simp only [hd.box]
    unfold m_is_hand_test
    walk_at "vc"
    refine box_wp hd hk ?_
    unfold handB
    by_cases h1 : boxB d = true
    · rw [h1]
      walk_at "vc"
      exact closeR_same ⟨rfl, rfl⟩
    · rw [Bool.not_eq_true] at h1
      rw [h1]
      walk_at "vc"
      refine wp_eq (callL_eq (n := 2) (f := f_is_joined (g_is_hand_test_lam0 (f_is_hand_test (k + 1)))) (ds := [d]) (cs := []) (d := .bl (joinB (handB (k + 1)) d)) (S1 := S) (S' := S) (by walk_at "ev") rfl rfl ht.hand fun c => eq_of_wp (joined_wp hd hk (fun j x e hx => ?_) ⟨rfl, rfl⟩)) ?_
      rotate_left
      · walk_at "vc"
        exact closeR_same ⟨rfl, rfl⟩
      · cases e
        refine eq_of_wp ?_
        unfold g_is_hand_test_lam0
        refine runC_wp ?_
        walk_at "vc"
        simp only [hx.box]
        walk_at "vc"
        rw [ih (by omega) x hx]
        walk_at "vc"
        exact closeR_same ⟨rfl, rfl⟩
theorem hand40 (ht : Tabs2 S) (hd : Rd S k d) (hk : k ≤ 36) : f_is_hand_test 37 [d] S = .ok (.bl (handB 37 d)) S := hand_eq ht 36 (by decide) d (hd.up hk)
theorem test_core {n : Nat} {g : Fn} {f : D → Bool} (ht : Tabs2 S) (hd : Rd S k d) (hk : k ≤ 36) (hg : ∀ j x, k = j + 1 → Rd S j x → g [x, .int n] S = .ok (.bl (f x)) S) :
    runBody (m_is_test g) 2 [d, .int n] S = .ok (.bl (if toldB "count" 4 d = true then (fromB 0 ((n : Int) - 1) (arg d 1) && handB 37 (arg d 2)) && (boundB (some 0) (some 6) (arg d 3) && boundB (some 0) (some 6) (arg d 4))
    else if toldB "letters" 3 d = true then fromB 1 12 (arg d 1) && (boundB (some 0) none (arg d 2) && boundB (some 0) none (arg d 3))
    else joinB f d)) S := by
  refine eq_of_wp ?_
  refine run_wp ?_
  walk_at "vc"
  simp only [hd.box]
  unfold m_is_test
  walk_at "nx"
  refine told_wi (n := 4) rfl (by decide +kernel) hd (by omega) ?_
  walk_at "vc"
  by_cases h1 : toldB "count" 4 d = true
  · rw [if_pos h1, h1]
    obtain ⟨a, b, c, e, j, rfl, rfl, ha, hb, hc, he⟩ := told_4 hd h1
    simp only [arg, List.getElem?_cons_succ, List.getElem?_cons_zero, Option.getD_some]
    walk_at "vc"
    walk_at "nx"
    refine from_wp ha ?_
    walk_at "vc"
    by_cases g1 : fromB 0 ((n : Int) - 1) a = true
    · rw [g1]
      walk_at "vc"
      rw [hand40 ht hb (by omega)]
      walk_at "vc"
      by_cases g2 : handB 37 b = true
      · rw [g2]
        walk_at "vc"
        walk_at "go"
        walk_at "vc"
        refine bound_wp (lo := some 0) (hi := some 6) hc ?_
        by_cases g3 : boundB (some 0) (some 6) c = true
        · rw [g3]
          walk_at "vc"
          refine bound_wp (lo := some 0) (hi := some 6) he ?_
          walk_at "vc"
          exact closeR_same ⟨by simp [*], rfl⟩
        · rw [Bool.not_eq_true] at g3
          rw [g3]
          walk_at "vc"
          exact closeR_same ⟨by simp [*], rfl⟩
      · rw [Bool.not_eq_true] at g2
        rw [g2]
        walk_at "vc"
        exact closeR_same ⟨by simp [*], rfl⟩
    · rw [Bool.not_eq_true] at g1
      rw [g1]
      walk_at "vc"
      exact closeR_same ⟨by simp [*], rfl⟩
  rw [if_neg h1]
  rw [Bool.not_eq_true] at h1
  rw [h1]
  walk_at "vc"
  walk_at "go"
  walk_at "nx"
  refine told_wi (n := 3) rfl (by decide +kernel) hd (by omega) ?_
  walk_at "vc"
  by_cases h2 : toldB "letters" 3 d = true
  · rw [if_pos h2, h2]
    obtain ⟨a, b, c, j, rfl, rfl, ha, hb, hc⟩ := told_3 hd h2
    simp only [arg, List.getElem?_cons_succ, List.getElem?_cons_zero, Option.getD_some]
    walk_at "vc"
    refine from_wp ha ?_
    by_cases g1 : fromB 1 12 a = true
    · rw [g1]
      walk_at "vc"
      refine bound_wp (lo := some 0) (hi := none) hb ?_
      by_cases g2 : boundB (some 0) none b = true
      · rw [g2]
        walk_at "vc"
        refine bound_wp (lo := some 0) (hi := none) hc ?_
        walk_at "vc"
        exact closeR_same ⟨by simp [*], rfl⟩
      · rw [Bool.not_eq_true] at g2
        rw [g2]
        walk_at "vc"
        exact closeR_same ⟨by simp [*], rfl⟩
    · rw [Bool.not_eq_true] at g1
      rw [g1]
      walk_at "vc"
      exact closeR_same ⟨by simp [*], rfl⟩
  rw [if_neg h2]
  rw [Bool.not_eq_true] at h2
  rw [h2]
  walk_at "vc"
  walk_at "go"
  walk_at "vc"
  refine wp_eq (callL_eq (n := 2) (f := f_is_joined (g_is_test_lam0 g)) (ds := [d]) (cs := [.int n]) (d := .bl (joinB f d)) (S1 := S) (S' := S) (by walk_at "ev") rfl rfl ht.test fun c => eq_of_wp (joined_wp hd (by omega) (fun j x e hx => ?_) ⟨rfl, rfl⟩)) ?_
  rotate_left
  · walk_at "vc"
    exact closeR_same ⟨by simp [h1, h2], rfl⟩
  · refine eq_of_wp ?_
    unfold g_is_test_lam0
    refine runC_wp ?_
    walk_at "vc"
    simp only [hx.box]
    walk_at "vc"
    rw [hg j x e hx]
    walk_at "vc"
    exact closeR_same ⟨rfl, rfl⟩
theorem test_eq {n : Nat} (ht : Tabs2 S) : ∀ k ≤ 36, ∀ d, Rd S k d → f_is_test (k + 1) [d, .int n] S = .ok (.bl (testB n (k + 1) d)) S := by
  intro k
  induction k with
  | zero => intro hk d hd; exact test_core (f := testB n 0) ht hd hk fun j x e _ => nomatch e
  | succ k ih =>
    intro hk d hd
    refine test_core (f := testB n (k + 1)) ht hd hk fun j x e hx => ?_
    cases e
    exact ih (by omega) x hx
theorem test40 {n : Nat} (ht : Tabs2 S) (hd : Rd S k d) (hk : k ≤ 36) : f_is_test 37 [d, .int n] S = .ok (.bl (testB n 37 d)) S := test_eq ht 36 (by decide) d (hd.up hk)
/-- a program of n roles, as far as it matters here -/
def progD (n : Nat) : D := .tup [.int 1, .tup [.int 0, .int 0], .tup (List.replicate n (.tup [])), .tup [.int 0]]
theorem look_wp {n : Nat} (ht : Tabs2 S) (hd : Rd S k d) (hk : k ≤ 37) (q1 : claimB n d = true → Q .non S) (q2 : claimB n d = false → E "NoClaim" [] [] S) : (f_look_over_claim [progD n, d] S).wp Q E := by
  refine run_wp ?_
  unfold progD
  walk_at "vc"
  simp only [hd.box]
  unfold m_look_over_claim
  walk_at "nx"
  rw [blt_lenA (d := .tup (List.replicate n (.tup []))) rfl (fun _ h => nomatch h), List.length_replicate]
  walk_at "vc"
  walk_at "go"
  walk_at "st"
  have fin : ∀ b : Bool, b = claimB n d → ∀ x, ((sIf (mNotT (mTru (mVar 3))) (sRaise "NoClaim") sNext) [x, some d, some (.int n), some (.bl b)] S).wp (fun _ S2 => Q .non (closeD S .non S2).2) (closeR S Q) (fun _ _ => False) (fun _ _ => False) (fun c ks es S2 => E c ks es (closeL S es S2)) := fun b hb x => by
    cases b with
    | true =>
      walk_at "vc"
      rw [closeD_same]
      exact q1 hb.symm
    | false =>
      walk_at "vc"
      rw [closeL_same rfl]
      exact q2 hb.symm
  unfold claimB at fin
  walk_at "nx"
  refine told_wi (n := 1) rfl (by decide +kernel) hd (by omega) ?_
  walk_at "vc"
  by_cases h1 : toldB "never" 1 d = true
  · rw [if_pos h1] at fin
    rw [h1]
    obtain ⟨a, j, rfl, rfl, ha⟩ := told_1 hd h1
    simp only [arg, List.getElem?_cons_succ, List.getElem?_cons_zero, Option.getD_some] at fin
    walk_at "vc"
    rw [test40 ht ha (by omega)]
    walk_at "vc"
    walk_at "go"
    walk_at "nx"
    have no : ∀ w, w ≠ "never" → toldB w 2 (.tup [.str "never", a]) = false := fun w _ => rfl
    refine told_wi (n := 2) rfl (by decide +kernel) hd (by omega) ?_
    rw [show toldB "behind" 2 (.tup [.str "never", a]) = false from rfl]
    walk_at "vc"
    refine told_wi (n := 2) rfl (by decide +kernel) hd (by omega) ?_
    rw [show toldB "comes" 2 (.tup [.str "never", a]) = false from rfl]
    walk_at "vc"
    walk_at "go"
    exact fin _ rfl _
  rw [if_neg h1] at fin
  rw [Bool.not_eq_true] at h1
  rw [h1]
  walk_at "vc"
  walk_at "go"
  walk_at "nx"
  refine told_wi (n := 2) rfl (by decide +kernel) hd (by omega) ?_
  by_cases h2 : toldB "behind" 2 d = true
  · rw [h2] at fin ⊢
    rw [Bool.true_or, if_pos rfl] at fin
    obtain ⟨a, b, j, rfl, rfl, ha, hb⟩ := told_2 hd h2
    simp only [arg, List.getElem?_cons_succ, List.getElem?_cons_zero, Option.getD_some] at fin
    walk_at "vc"
    rw [test40 ht ha (by omega)]
    by_cases g1 : testB n 37 a = true
    · rw [g1] at fin ⊢
      walk_at "vc"
      rw [test40 ht hb (by omega)]
      walk_at "vc"
      walk_at "go"
      exact fin _ (by rw [Bool.true_and]) _
    · rw [Bool.not_eq_true] at g1
      rw [g1] at fin ⊢
      walk_at "vc"
      walk_at "go"
      exact fin _ (by rw [Bool.false_and]) _
  · rw [Bool.not_eq_true] at h2
    rw [h2] at fin ⊢
    rw [Bool.false_or] at fin
    walk_at "vc"
    refine told_wi (n := 2) rfl (by decide +kernel) hd (by omega) ?_
    by_cases h3 : toldB "comes" 2 d = true
    · rw [h3] at fin ⊢
      rw [if_pos rfl] at fin
      obtain ⟨a, b, j, rfl, rfl, ha, hb⟩ := told_2 hd h3
      simp only [arg, List.getElem?_cons_succ, List.getElem?_cons_zero, Option.getD_some] at fin
      walk_at "vc"
      rw [test40 ht ha (by omega)]
      by_cases g1 : testB n 37 a = true
      · rw [g1] at fin ⊢
        walk_at "vc"
        rw [test40 ht hb (by omega)]
        walk_at "vc"
        walk_at "go"
        exact fin _ (by rw [Bool.true_and]) _
      · rw [Bool.not_eq_true] at g1
        rw [g1] at fin ⊢
        walk_at "vc"
        walk_at "go"
        exact fin _ (by rw [Bool.false_and]) _
    · rw [Bool.not_eq_true] at h3
      rw [h3] at fin ⊢
      rw [if_neg (by decide)] at fin
      walk_at "vc"
      walk_at "go"
      exact fin _ rfl _
end
end Ev.K45
namespace Ev.K45
open PySem PySem.Spec PyProof.Rows L2 Ev
/-! the law's own look -/
def inI (lo hi : Option Int) : D → Bool
  | .int i => (match lo with | some l => decide (l ≤ i) | none => true) && (match hi with | some h => decide (i ≤ h) | none => true)
  | _ => false
theorem inI_from {lo hi : Int} {d : D} : inI (some lo) (some hi) d = fromB lo hi d := by cases d <;> rfl
theorem inI_bound {lo hi : Option Int} {d : D} : boundB lo hi d = ((match d with | .non => true | _ => false) || inI lo hi d) := by
  cases d <;> rfl
def formB (ws : List (Str × Nat)) : D → Bool
  | .tup (.str w :: r) => decide (ws.lookup w = some (r.length + 1))
  | _ => false
def keysW (ws : List (Str × Nat)) : List Key := ws.map fun p => .inr p.1
def valsW (ws : List (Str × Nat)) : List D := ws.map fun p => .int (p.2 : Nat)
theorem lookW {x : Str} : ∀ {ws : List (Str × Nat)}, lookK (.inr x) (keysW ws) (valsW ws) = (ws.lookup x).map fun n => D.int (n : Nat)
  | [] => rfl
  | (y, n) :: ws => by
    show lookK (.inr x) (.inr y :: keysW ws) (.int (n : Nat) :: valsW ws) = _
    by_cases h : y = x
    · subst h; rw [lookK_hit, List.lookup_cons, beq_self_eq_true]; rfl
    · rw [lookK_miss (by simpa using h), lookW, List.lookup_cons]
      have : (x == y) = false := by simpa using fun z => h z.symm
      rw [this]
theorem form_ex {ws : List (Str × Nat)} {d : D} (h : formB ws d = true) : ∃ w r, d = .tup (.str w :: r) ∧ (w, r.length + 1) ∈ ws := by
  unfold formB at h
  split at h
  · rename_i w r
    exact ⟨w, r, rfl, PySem.mem_of_lookup (of_decide_eq_true h)⟩
  · cases h
theorem form_of {ws : List (Str × Nat)} {w : Str} {n : Nat} {d : D} (h : toldB w n d = true) (hl : ws.lookup w = some (n + 1)) : formB ws d = true := by
  obtain ⟨ds, rfl, e⟩ := told_ex h
  show decide (ws.lookup w = some (ds.length + 1)) = true
  rw [e]; exact decide_eq_true hl
section
variable {S : Store} {Q : D → Store → Prop} {E : XP} {k : Nat} {d : D}
theorem isD_bn {n b : Bool} {S : Store} : isD n (.bl b) .non S = some (.bl n) := rfl
theorem lwhole_wp {lo hi : Option Int} (hd : Rd S k d) (q : Q (.bl (inI lo hi d)) S) : (f__law_whole [d, bdD lo, bdD hi] S).wp Q E := by
  refine run_wp ?_
  walk_at "vc"
  simp only [hd.box, box_bd]
  walk_at "vc"
  unfold m__law_whole
  cases hd with
  | int i =>
    walk_at "nx"
    walk_at "go"
    unfold inI at q
    dsimp only at q
    cases lo with
    | none =>
      rw [show bdD none = D.non from rfl]
      walk_at "vc"
      cases hi with
      | none => rw [show bdD none = D.non from rfl]; walk_at "vc"; exact closeR_same q
      | some h => rw [show bdD (some h) = D.int h from rfl]; walk_at "vc"; exact closeR_same q
    | some l =>
      rw [show bdD (some l) = D.int l from rfl]
      walk_at "vc"
      by_cases hl : l ≤ i
      · dsimp only at q
        rw [decide_eq_true hl, Bool.true_and] at q
        rw [decide_eq_true hl]
        walk_at "vc"
        cases hi with
        | none => rw [show bdD none = D.non from rfl]; walk_at "vc"; exact closeR_same q
        | some h => rw [show bdD (some h) = D.int h from rfl]; walk_at "vc"; exact closeR_same q
      · dsimp only at q
        rw [decide_eq_false hl, Bool.false_and] at q
        rw [decide_eq_false hl]
        walk_at "vc"
        exact closeR_same q
  | non => walk_at "nx"; exact closeR_same q
  | bl b => walk_at "nx"; exact closeR_same q
  | str b => walk_at "nx"; exact closeR_same q
  | tup b hl hh => walk_at "nx"; exact closeR_same q
  | ref n ds e hh => walk_at "nx"; rw [e]; walk_at "vc"; exact closeR_same q
theorem lbound_wp {lo hi : Option Int} (hd : Rd S k d) (q : Q (.bl (boundB lo hi d)) S) : (f__law_bound [d, bdD lo, bdD hi] S).wp Q E := by
  refine run_wp ?_
  walk_at "vc"
  simp only [hd.box, box_bd]
  walk_at "vc"
  unfold m__law_bound
  rw [inI_bound] at q
  cases hd with
  | non => walk_at "vc"; exact closeR_same q
  | int i => walk_at "vc"; refine lwhole_wp (k := 0) (.int i) ?_; walk_at "vc"; exact closeR_same q
  | bl b => walk_at "vc"; rw [isD_bn]; walk_at "vc"; refine lwhole_wp (k := 0) (.bl b) ?_; walk_at "vc"; exact closeR_same q
  | str b hb => walk_at "vc"; refine lwhole_wp (k := 0) (.str b hb) ?_; walk_at "vc"; exact closeR_same q
  | tup b hl hh => walk_at "vc"; refine lwhole_wp (.tup b hl hh) ?_; walk_at "vc"; exact closeR_same q
  | ref n ds e hh => walk_at "vc"; refine lwhole_wp (.ref n ds e hh) ?_; walk_at "vc"; exact closeR_same q
theorem form_core {ws : List (Str × Nat)} {r : Nat} {N : Env' → Store → Prop} {R : D → Store → Prop} {B C : Env' → Store → Prop} {X : XP} (hd : Rd S k d) (hk : k ≤ 60) (hr : S[r]? = some (.dk (keysW ws) (valsW ws))) (q : R (.bl (formB ws d)) S) : (m__law_form [some d, some (.ref r)] S).wp N R B C X := by
  unfold m__law_form
  cases hd with
  | non => walk_at "nx"; exact q
  | bl b => walk_at "nx"; exact q
  | int b => walk_at "nx"; exact q
  | str b => walk_at "nx"; exact q
  | ref m ds e => walk_at "nx"; rw [e]; walk_at "vc"; exact q
  | @tup _ j ds hl hh =>
    walk_at "nx"
    rw [(Rd.tup ds hl hh).eqT (by omega)]
    walk_at "vc"
    cases ds with
    | nil => simp only [isNil]; walk_at "vc"; exact q
    | cons x ds =>
      simp only [isNil]
      walk_at "vc"
      have hx := hh x List.mem_cons_self
      cases hx with
      | str w hw =>
        walk_at "vc"
        unfold dinD
        rw [dictK_ref, hr]
        dsimp only [keyD]
        rw [lookW]
        unfold formB at q
        dsimp only at q
        cases e : ws.lookup w with
        | none =>
          rw [e] at q
          walk_at "vc"
          exact q
        | some n =>
          rw [e] at q
          walk_at "vc"
          walk_at "go"
          walk_at "vc"
          rw [blt_lenA (d := .tup (.str w :: ds)) rfl (fun _ h => nomatch h)]
          walk_at "vc"
          rw [hr]
          dsimp only
          rw [lookW, e]
          walk_at "vc"
          simp only [Option.map_some]
          walk_at "vc"
          rw [show decide (((ds.length + 1 : Nat) : Int) = (n : Nat)) = decide (some n = some (ds.length + 1)) from decide_eq_decide.mpr (by rw [Option.some.injEq]; omega)]
          exact q
      | non => walk_at "vc"; exact q
      | bl b => walk_at "vc"; exact q
      | int b => walk_at "vc"; exact q
      | tup b => walk_at "vc"; exact q
      | ref m es e => walk_at "vc"; rw [e]; walk_at "vc"; exact q
theorem form_ref {ws : List (Str × Nat)} {r : Nat} (hd : Rd S k d) (hk : k ≤ 60) (hr : S[r]? = some (.dk (keysW ws) (valsW ws))) (q : Q (.bl (formB ws d)) S) : (f__law_form [d, .ref r] S).wp Q E := by
  refine run_wp ?_
  walk_at "vc"
  simp only [hd.box]
  walk_at "vc"
  exact form_core hd hk hr (closeR_same q)
theorem form_new {ws : List (Str × Nat)} {ks : List Key} {vs : List D} (hks : ks = keysW ws) (hvs : vs = valsW ws) (hd : Rd S k d) (hk : k ≤ 60) (q : Q (.bl (formB ws d)) S) : (f__law_form [d, .dk ks vs] S).wp Q E := by
  subst hks hvs
  refine run_wp ?_
  walk_at "vc"
  simp only [hd.box]
  walk_at "vc"
  exact form_core (hd.app _) hk (by rw [getT0]; rfl) (closeR_app (by rfl) q)
theorem in_strs {i : Str} {d : D} {ns : List Str} {S : Store} (h : seqA S d = some (ns.map D.str)) : inD false (.str i) d S = some (.bl (decide (i ∈ ns))) := by
  have hf : ∀ ns : List Str, (ns.map D.str).mapM flatD = some (ns.map V.str) := fun ns => by
    induction ns with
    | nil => rfl
    | cons n ns ih => rw [List.map_cons, List.mapM_cons, ih]; rfl
  have hi : ∀ ns : List Str, inV (.str i) (ns.map V.str) = decide (i ∈ ns) := fun ns => by
    unfold inV
    induction ns with
    | nil => simp
    | cons n ns ih =>
      rw [List.map_cons, List.any_cons, ih]
      show ((n == i) || _) = _
      by_cases h : n = i
      · simp [h]
      · have h' : ¬ i = n := fun e => h e.symm
        simp [h, h']
  unfold inD
  cases d <;> first
    | (simp only [flatD, h, hf, hi]; rfl)
    | cases h
end
end Ev.K45
namespace Ev.K45
open PySem PySem.Spec PyProof.Rows L2 Ev
/-! the law's look at tests -/
def hws : List (Str × Nat) := [("at", 2), ("number", 4), ("has", 2), ("many", 3), ("bell", 1), ("fallen", 1), ("not", 2), ("both", 3), ("either", 3)]
def tws : List (Str × Nat) := [("count", 5), ("letters", 4), ("not", 2), ("both", 3), ("either", 3)]
def cws : List (Str × Nat) := [("never", 2), ("behind", 3), ("comes", 3)]
theorem join_form {ws : List (Str × Nat)} {f : D → Bool} {d : D} (h1 : ws.lookup ("not" : Str) = some 2) (h2 : ws.lookup ("both" : Str) = some 3) (h3 : ws.lookup ("either" : Str) = some 3) (h : joinB f d = true) : formB ws d = true := by
  unfold joinB at h
  by_cases g1 : toldB "not" 1 d = true
  · exact form_of g1 h1
  · rw [if_neg g1] at h
    by_cases g2 : (toldB "both" 2 d || toldB "either" 2 d) = true
    · rw [Bool.or_eq_true] at g2
      exact g2.elim (fun z => form_of z h2) fun z => form_of z h3
    · rw [if_neg g2] at h; cases h
theorem hand_form {k : Nat} {d : D} (h : handB (k + 1) d = true) : formB hws d = true := by
  unfold handB at h
  rw [Bool.or_eq_true] at h
  rcases h with h | h
  · unfold boxB at h
    by_cases g1 : toldB "at" 1 d = true
    · exact form_of g1 (by decide +kernel)
    rw [if_neg g1] at h
    by_cases g2 : toldB "number" 3 d = true
    · exact form_of g2 (by decide +kernel)
    rw [if_neg g2] at h
    by_cases g3 : toldB "has" 1 d = true
    · exact form_of g3 (by decide +kernel)
    rw [if_neg g3] at h
    by_cases g4 : toldB "many" 2 d = true
    · exact form_of g4 (by decide +kernel)
    rw [if_neg g4, Bool.or_eq_true] at h
    exact h.elim (fun z => form_of z (by decide +kernel)) fun z => form_of z (by decide +kernel)
  · exact join_form (by decide +kernel) (by decide +kernel) (by decide +kernel) h
theorem test_form {n : Int} {k : Nat} {d : D} (h : testB n (k + 1) d = true) : formB tws d = true := by
  unfold testB at h
  by_cases g1 : toldB "count" 4 d = true
  · exact form_of g1 (by decide +kernel)
  rw [if_neg g1] at h
  by_cases g2 : toldB "letters" 3 d = true
  · exact form_of g2 (by decide +kernel)
  rw [if_neg g2] at h
  exact join_form (by decide +kernel) (by decide +kernel) (by decide +kernel) h
theorem claim_form {n : Int} {d : D} (h : claimB n d = true) : formB cws d = true := by
  unfold claimB at h
  by_cases g1 : toldB "never" 1 d = true
  · exact form_of g1 (by decide +kernel)
  rw [if_neg g1] at h
  by_cases g2 : (toldB "behind" 2 d || toldB "comes" 2 d) = true
  · rw [Bool.or_eq_true] at g2
    exact g2.elim (fun z => form_of z (by decide +kernel)) fun z => form_of z (by decide +kernel)
  · rw [if_neg g2] at h; cases h
section
variable {k : Nat} {a b c e : D} {n : Int}
theorem hB_at : handB (k + 1) (.tup [.str "at", a]) = fromB 0 60 a := by
  show (fromB 0 60 a || joinB _ _) = _
  rw [show joinB (handB k) (.tup [.str "at", a]) = false by kernel_rfl, Bool.or_false]
theorem hB_num : handB (k + 1) (.tup [.str "number", a, b, c]) = (fromB 0 2 a && (boundB none none b && boundB none none c)) := by
  rw [show handB (k + 1) (.tup [.str "number", a, b, c]) = ((fromB 0 2 a && (boundB none none b && boundB none none c)) || false) by kernel_rfl, Bool.or_false]
theorem hB_has : handB (k + 1) (.tup [.str "has", a]) = fromB 0 2 a := by
  rw [show handB (k + 1) (.tup [.str "has", a]) = (fromB 0 2 a || false) by kernel_rfl, Bool.or_false]
theorem hB_many : handB (k + 1) (.tup [.str "many", a, b]) = (fromB 0 1 a && fromB 0 6 b) := by
  rw [show handB (k + 1) (.tup [.str "many", a, b]) = ((fromB 0 1 a && fromB 0 6 b) || false) by kernel_rfl, Bool.or_false]
theorem hB_bell : handB (k + 1) (.tup [.str "bell"]) = true := by kernel_rfl
theorem hB_fallen : handB (k + 1) (.tup [.str "fallen"]) = true := by kernel_rfl
theorem hB_not : handB (k + 1) (.tup [.str "not", a]) = handB k a := by kernel_rfl
theorem hB_both : handB (k + 1) (.tup [.str "both", a, b]) = (handB k a && handB k b) := by kernel_rfl
theorem hB_either : handB (k + 1) (.tup [.str "either", a, b]) = (handB k a && handB k b) := by kernel_rfl
theorem tB_count : testB n (k + 1) (.tup [.str "count", a, b, c, e]) = ((fromB 0 (n - 1) a && handB 37 b) && (boundB (some 0) (some 6) c && boundB (some 0) (some 6) e)) := by kernel_rfl
theorem tB_letters : testB n (k + 1) (.tup [.str "letters", a, b, c]) = (fromB 1 12 a && (boundB (some 0) none b && boundB (some 0) none c)) := by kernel_rfl
theorem tB_not : testB n (k + 1) (.tup [.str "not", a]) = testB n k a := by kernel_rfl
theorem tB_both : testB n (k + 1) (.tup [.str "both", a, b]) = (testB n k a && testB n k b) := by kernel_rfl
theorem tB_either : testB n (k + 1) (.tup [.str "either", a, b]) = (testB n k a && testB n k b) := by kernel_rfl
theorem cB_never : claimB n (.tup [.str "never", a]) = testB n 37 a := by kernel_rfl
theorem cB_behind : claimB n (.tup [.str "behind", a, b]) = (testB n 37 a && testB n 37 b) := by kernel_rfl
theorem cB_comes : claimB n (.tup [.str "comes", a, b]) = (testB n 37 a && testB n 37 b) := by kernel_rfl
end
theorem one_of {r : List D} (h : r.length + 1 = 2) : ∃ a, r = [a] := by
  match r, h with
  | [a], _ => exact ⟨a, rfl⟩
theorem two_of' {r : List D} (h : r.length + 1 = 3) : ∃ a b, r = [a, b] := by
  match r, h with
  | [a, b], _ => exact ⟨a, b, rfl⟩
theorem three_of {r : List D} (h : r.length + 1 = 4) : ∃ a b c, r = [a, b, c] := by
  match r, h with
  | [a, b, c], _ => exact ⟨a, b, c, rfl⟩
theorem four_of {r : List D} (h : r.length + 1 = 5) : ∃ a b c e, r = [a, b, c, e] := by
  match r, h with
  | [a, b, c, e], _ => exact ⟨a, b, c, e, rfl⟩
theorem nil_of {r : List D} (h : r.length + 1 = 1) : r = [] := by
  match r, h with
  | [], _ => rfl
inductive HSh : D → Prop
  | at (a : D) : HSh (.tup [.str "at", a])
  | num (a b c : D) : HSh (.tup [.str "number", a, b, c])
  | has (a : D) : HSh (.tup [.str "has", a])
  | many (a b : D) : HSh (.tup [.str "many", a, b])
  | bell : HSh (.tup [.str "bell"])
  | fallen : HSh (.tup [.str "fallen"])
  | not (a : D) : HSh (.tup [.str "not", a])
  | both (a b : D) : HSh (.tup [.str "both", a, b])
  | either (a b : D) : HSh (.tup [.str "either", a, b])
theorem hsh_of {d : D} (h : formB hws d = true) : HSh d := by
  obtain ⟨w, r, rfl, hm⟩ := form_ex h
  simp only [hws, List.mem_cons, List.not_mem_nil, or_false, Prod.mk.injEq] at hm
  rcases hm with ⟨rfl, h2⟩ | ⟨rfl, h2⟩ | ⟨rfl, h2⟩ | ⟨rfl, h2⟩ | ⟨rfl, h2⟩ | ⟨rfl, h2⟩ | ⟨rfl, h2⟩ | ⟨rfl, h2⟩ | ⟨rfl, h2⟩
  · obtain ⟨a, rfl⟩ := one_of h2; exact .at a
  · obtain ⟨a, b, c, rfl⟩ := three_of h2; exact .num a b c
  · obtain ⟨a, rfl⟩ := one_of h2; exact .has a
  · obtain ⟨a, b, rfl⟩ := two_of' h2; exact .many a b
  · obtain rfl := nil_of h2; exact .bell
  · obtain rfl := nil_of h2; exact .fallen
  · obtain ⟨a, rfl⟩ := one_of h2; exact .not a
  · obtain ⟨a, b, rfl⟩ := two_of' h2; exact .both a b
  · obtain ⟨a, b, rfl⟩ := two_of' h2; exact .either a b
inductive TSh : D → Prop
  | count (a b c e : D) : TSh (.tup [.str "count", a, b, c, e])
  | letters (a b c : D) : TSh (.tup [.str "letters", a, b, c])
  | not (a : D) : TSh (.tup [.str "not", a])
  | both (a b : D) : TSh (.tup [.str "both", a, b])
  | either (a b : D) : TSh (.tup [.str "either", a, b])
theorem tsh_of {d : D} (h : formB tws d = true) : TSh d := by
  obtain ⟨w, r, rfl, hm⟩ := form_ex h
  simp only [tws, List.mem_cons, List.not_mem_nil, or_false, Prod.mk.injEq] at hm
  rcases hm with ⟨rfl, h2⟩ | ⟨rfl, h2⟩ | ⟨rfl, h2⟩ | ⟨rfl, h2⟩ | ⟨rfl, h2⟩
  · obtain ⟨a, b, c, e, rfl⟩ := four_of h2; exact .count a b c e
  · obtain ⟨a, b, c, rfl⟩ := three_of h2; exact .letters a b c
  · obtain ⟨a, rfl⟩ := one_of h2; exact .not a
  · obtain ⟨a, b, rfl⟩ := two_of' h2; exact .both a b
  · obtain ⟨a, b, rfl⟩ := two_of' h2; exact .either a b
inductive CSh : D → Prop
  | never (a : D) : CSh (.tup [.str "never", a])
  | behind (a b : D) : CSh (.tup [.str "behind", a, b])
  | comes (a b : D) : CSh (.tup [.str "comes", a, b])
theorem csh_of {d : D} (h : formB cws d = true) : CSh d := by
  obtain ⟨w, r, rfl, hm⟩ := form_ex h
  simp only [cws, List.mem_cons, List.not_mem_nil, or_false, Prod.mk.injEq] at hm
  rcases hm with ⟨rfl, h2⟩ | ⟨rfl, h2⟩ | ⟨rfl, h2⟩
  · obtain ⟨a, rfl⟩ := one_of h2; exact .never a
  · obtain ⟨a, b, rfl⟩ := two_of' h2; exact .behind a b
  · obtain ⟨a, b, rfl⟩ := two_of' h2; exact .comes a b
section
variable {S : Store} {Q : D → Store → Prop} {E : XP} {k : Nat} {d : D}
theorem eq_nilR {es : List D} {U : Store} {x : D} (hx : seqL U x = some es) (h : ∀ y ∈ es, Rd U k y) (hk : k ≤ 60) : eqD U x (.lst []) = some es.isEmpty := by
  obtain ⟨ps, e, hp⟩ := mapM_ex (f := py U 65) (P := Shp k) fun y hy => let ⟨p, a, b, _⟩ := (h y hy).py (n := 65) (by omega); ⟨p, a, b⟩
  have hl := mapM_len e
  rw [eqD_shp (p := .list ps) (q := .list []) (n := k + 1) (m := 1) (by rw [py_lst hx, e]; rfl) rfl (.list hp) (.list fun _ h => nomatch h) (by omega) (by decide)]
  cases es with
  | nil => cases ps with
    | nil => rfl
    | cons _ _ => simp at hl
  | cons y es => cases ps with
    | nil => simp at hl
    | cons _ _ => simp [PyData.eqv, PyData.eqvAll]
theorem filt_nil {f : D → Bool} {xs : List D} : (xs.filter fun x => !f x).isEmpty = xs.all f := by
  induction xs with
  | nil => rfl
  | cons x xs ih =>
    rw [List.filter_cons, List.all_cons]
    cases f x with
    | true => simpa using ih
    | false => rfl
/-- a comprehension over what is bad -/
theorem comp_bad {b : Bind} {mt : M Bool} {me : M D} {ρ0 : Env'} {xs : List D} {f : D → Bool} {Q : List D → Store → Prop} (step : ∀ x ∈ xs, ∃ ρ1, b x ρ0 = some ρ1 ∧ (mt ρ1 S).wp (fun k S1 => S1 = S ∧ k = !f x) E ∧ (me ρ1 S).wp (fun e S2 => box e S2 = (x, S)) E) (done : Q (xs.filter fun x => !f x) S) : (compL b mt me [] ρ0 xs S).wp Q E := by
  have := comp_flt (b := b) (mt := mt) (me := me) (g := []) (ρ0 := ρ0) (S := S) (ι := fun x : D => x) (xs := xs) (Q := Q) (E := E) (fun x => !f x) (fun x => x) trivial (fun x hx => let ⟨ρ1, h1, h2, h3⟩ := step x hx; ⟨ρ1, h1, h2, fun _ => h3⟩) (by rw [List.map_id']; exact done)
  rwa [List.map_id'] at this
end
end Ev.K45
namespace Ev.K45
open PySem PySem.Spec PyProof.Rows L2 Ev
/-! the law's look at tests, walked -/
section
variable {S : Store} {Q : D → Store → Prop} {E : XP} {k : Nat} {d : D}
theorem lfrom_wp {lo hi : Int} (hd : Rd S k d) (q : Q (.bl (fromB lo hi d)) S) : (f__law_whole [d, .int lo, .int hi] S).wp Q E := by
  refine lwhole_wp (lo := some lo) (hi := some hi) hd ?_
  rw [inI_from]; exact q
theorem rd_1 {x a : D} (hd : Rd S k (.tup [x, a])) : ∃ j, k = j + 1 ∧ Rd S j a := by
  obtain ⟨j, e, _, h⟩ := rd_in hd
  exact ⟨j, e, h a (by simp)⟩
theorem rd_2 {x a b : D} (hd : Rd S k (.tup [x, a, b])) : ∃ j, k = j + 1 ∧ Rd S j a ∧ Rd S j b := by
  obtain ⟨j, e, _, h⟩ := rd_in hd
  exact ⟨j, e, h a (by simp), h b (by simp)⟩
theorem rd_3 {x a b c : D} (hd : Rd S k (.tup [x, a, b, c])) : ∃ j, k = j + 1 ∧ Rd S j a ∧ Rd S j b ∧ Rd S j c := by
  obtain ⟨j, e, _, h⟩ := rd_in hd
  exact ⟨j, e, h a (by simp), h b (by simp), h c (by simp)⟩
theorem rd_4 {x a b c f : D} (hd : Rd S k (.tup [x, a, b, c, f])) : ∃ j, k = j + 1 ∧ Rd S j a ∧ Rd S j b ∧ Rd S j c ∧ Rd S j f := by
  obtain ⟨j, e, _, h⟩ := rd_in hd
  exact ⟨j, e, h a (by simp), h b (by simp), h c (by simp), h f (by simp)⟩
theorem lhand_step {g : Fn} {K : Nat} (hk : k ≤ 60) (hd : Rd S k d) (hg : ∀ U j x, k = j + 1 → Rd U j x → g [x] U = .ok (.bl (handB K x)) U) : runBody (m__law_hand g) 3 [d] S = .ok (.bl (handB (K + 1) d)) S := by
  refine eq_of_wp ?_
  refine run_wp ?_
  walk_at "vc"
  simp only [hd.box]
  unfold m__law_hand
  walk_at "st"
  walk_at "nx"
  refine form_ref (ws := hws) (hd.app _) hk (by rw [getT0]; rfl) ?_
  walk_at "vc"
  by_cases hform : formB hws d = true
  case neg =>
    have hf : handB (K + 1) d = false := by
      cases z : handB (K + 1) d with
      | false => rfl
      | true => exact absurd (hand_form z) hform
    rw [hf]
    rw [Bool.not_eq_true] at hform
    rw [hform]
    walk_at "vc"
    exact closeR_app rfl ⟨rfl, rfl⟩
  rw [hform]
  walk_at "vc"
  walk_at "go"
  have hd2 := hd.app [Cell.dk (keysW hws) (valsW hws)]
  cases hsh_of hform with
  | «at» a =>
    obtain ⟨j, rfl, ha⟩ := rd_1 hd2
    rw [hB_at]
    walk_at "nx"
    rw [in_strs (ns := ["not", "both", "either"]) rfl, show decide (("at" : Str) ∈ ([("not" : Str), "both", "either"])) = false by decide +kernel]
    walk_at "vc"
    walk_at "go"
    walk_at "nx"
    walk_at "sq"
    walk_at "vc"
    refine lfrom_wp ha ?_
    walk_at "vc"
    exact closeR_app rfl ⟨rfl, rfl⟩
  | num a b c =>
    obtain ⟨j, rfl, ha, hb, hc⟩ := rd_3 hd2
    rw [hB_num]
    walk_at "nx"
    rw [in_strs (ns := ["not", "both", "either"]) rfl, show decide (("number" : Str) ∈ ([("not" : Str), "both", "either"])) = false by decide +kernel]
    walk_at "vc"
    walk_at "go"
    walk_at "if0"
    walk_at "nx"
    walk_at "sq"
    walk_at "vc"
    refine lfrom_wp ha ?_
    by_cases g1 : fromB 0 2 a = true
    · rw [g1]
      walk_at "vc"
      refine lbound_wp (lo := none) (hi := none) hb ?_
      by_cases g2 : boundB none none b = true
      · rw [g2]
        walk_at "vc"
        refine lbound_wp (lo := none) (hi := none) hc ?_
        walk_at "vc"
        exact closeR_app rfl ⟨by simp, rfl⟩
      · rw [Bool.not_eq_true] at g2
        rw [g2]
        walk_at "vc"
        exact closeR_app rfl ⟨by simp, rfl⟩
    · rw [Bool.not_eq_true] at g1
      rw [g1]
      walk_at "vc"
      exact closeR_app rfl ⟨by simp, rfl⟩
  | has a =>
    obtain ⟨j, rfl, ha⟩ := rd_1 hd2
    rw [hB_has]
    walk_at "nx"
    rw [in_strs (ns := ["not", "both", "either"]) rfl, show decide (("has" : Str) ∈ ([("not" : Str), "both", "either"])) = false by decide +kernel]
    walk_at "vc"
    walk_at "go"
    walk_at "if0"
    walk_at "if0"
    walk_at "nx"
    walk_at "sq"
    walk_at "vc"
    refine lfrom_wp ha ?_
    walk_at "vc"
    exact closeR_app rfl ⟨rfl, rfl⟩
  | many a b =>
    obtain ⟨j, rfl, ha, hb⟩ := rd_2 hd2
    rw [hB_many]
    walk_at "nx"
    rw [in_strs (ns := ["not", "both", "either"]) rfl, show decide (("many" : Str) ∈ ([("not" : Str), "both", "either"])) = false by decide +kernel]
    walk_at "vc"
    walk_at "go"
    walk_at "if0"
    walk_at "if0"
    walk_at "if0"
    walk_at "vc"
    walk_at "sq"
    walk_at "vc"
    refine lfrom_wp ha ?_
    by_cases g1 : fromB 0 1 a = true
    · rw [g1]
      walk_at "vc"
      refine lfrom_wp hb ?_
      walk_at "vc"
      exact closeR_app rfl ⟨by simp, rfl⟩
    · rw [Bool.not_eq_true] at g1
      rw [g1]
      walk_at "vc"
      exact closeR_app rfl ⟨by simp, rfl⟩
  | bell =>
    rw [hB_bell]
    walk_at "nx"
    rw [in_strs (ns := ["not", "both", "either"]) rfl, show decide (("bell" : Str) ∈ ([("not" : Str), "both", "either"])) = false by decide +kernel]
    walk_at "vc"
    walk_at "go"
    walk_at "if0"
    walk_at "if0"
    walk_at "if0"
    walk_at "vc"
    walk_at "sq"
    walk_at "vc"
    exact closeR_app rfl ⟨rfl, rfl⟩
  | fallen =>
    rw [hB_fallen]
    walk_at "nx"
    rw [in_strs (ns := ["not", "both", "either"]) rfl, show decide (("fallen" : Str) ∈ ([("not" : Str), "both", "either"])) = false by decide +kernel]
    walk_at "vc"
    walk_at "go"
    walk_at "if0"
    walk_at "if0"
    walk_at "if0"
    walk_at "vc"
    walk_at "sq"
    walk_at "vc"
    exact closeR_app rfl ⟨rfl, rfl⟩
  | not a =>
    obtain ⟨j, rfl, ha⟩ := rd_1 hd2
    rw [hB_not]
    walk_at "nx"
    rw [in_strs (ns := ["not", "both", "either"]) rfl, show decide (("not" : Str) ∈ ([("not" : Str), "both", "either"])) = true by decide +kernel]
    walk_at "vc"
    unfold q__law_hand_1
    walk_at "vc"
    refine comp_bad (f := handB K) (fun x hx => ⟨_, rfl, ?_, ?_⟩) ?_
    · walk_at "vc"
      simp only [List.mem_cons, List.not_mem_nil, or_false] at hx
      have hx : Rd _ j x := hx ▸ ha
      refine wp_eq (hg _ j x rfl hx) ?_
      walk_at "vc"
    · walk_at "vc"
      simp only [List.mem_cons, List.not_mem_nil, or_false] at hx
      have hx : Rd _ j x := hx ▸ ha
      exact hx.box
    walk_at "vc"
    rw [eq_nilR (k := j) (es := [a].filter fun x => !handB K x) rfl (fun y hy => ?_) (by omega), filt_nil]
    · walk_at "vc"
      exact closeR_app rfl ⟨by simp, rfl⟩
    · have := (List.mem_filter.mp hy).1
      simp only [List.mem_cons, List.not_mem_nil, or_false] at this
      exact this ▸ ha
  | both a b =>
    obtain ⟨j, rfl, ha, hb⟩ := rd_2 hd2
    rw [hB_both]
    walk_at "nx"
    rw [in_strs (ns := ["not", "both", "either"]) rfl, show decide (("both" : Str) ∈ ([("not" : Str), "both", "either"])) = true by decide +kernel]
    walk_at "vc"
    unfold q__law_hand_1
    walk_at "vc"
    refine comp_bad (f := handB K) (fun x hx => ⟨_, rfl, ?_, ?_⟩) ?_
    · walk_at "vc"
      simp only [List.mem_cons, List.not_mem_nil, or_false] at hx
      have hx : Rd _ j x := hx.elim (fun e => e ▸ ha) fun e => e ▸ hb
      refine wp_eq (hg _ j x rfl hx) ?_
      walk_at "vc"
    · walk_at "vc"
      simp only [List.mem_cons, List.not_mem_nil, or_false] at hx
      have hx : Rd _ j x := hx.elim (fun e => e ▸ ha) fun e => e ▸ hb
      exact hx.box
    walk_at "vc"
    rw [eq_nilR (k := j) (es := [a, b].filter fun x => !handB K x) rfl (fun y hy => ?_) (by omega), filt_nil]
    · walk_at "vc"
      exact closeR_app rfl ⟨by simp, rfl⟩
    · have := (List.mem_filter.mp hy).1
      simp only [List.mem_cons, List.not_mem_nil, or_false] at this
      exact this.elim (fun e => e ▸ ha) fun e => e ▸ hb
  | either a b =>
    obtain ⟨j, rfl, ha, hb⟩ := rd_2 hd2
    rw [hB_either]
    walk_at "nx"
    rw [in_strs (ns := ["not", "both", "either"]) rfl, show decide (("either" : Str) ∈ ([("not" : Str), "both", "either"])) = true by decide +kernel]
    walk_at "vc"
    unfold q__law_hand_1
    walk_at "vc"
    refine comp_bad (f := handB K) (fun x hx => ⟨_, rfl, ?_, ?_⟩) ?_
    · walk_at "vc"
      simp only [List.mem_cons, List.not_mem_nil, or_false] at hx
      have hx : Rd _ j x := hx.elim (fun e => e ▸ ha) fun e => e ▸ hb
      refine wp_eq (hg _ j x rfl hx) ?_
      walk_at "vc"
    · walk_at "vc"
      simp only [List.mem_cons, List.not_mem_nil, or_false] at hx
      have hx : Rd _ j x := hx.elim (fun e => e ▸ ha) fun e => e ▸ hb
      exact hx.box
    walk_at "vc"
    rw [eq_nilR (k := j) (es := [a, b].filter fun x => !handB K x) rfl (fun y hy => ?_) (by omega), filt_nil]
    · walk_at "vc"
      exact closeR_app rfl ⟨by simp, rfl⟩
    · have := (List.mem_filter.mp hy).1
      simp only [List.mem_cons, List.not_mem_nil, or_false] at this
      exact this.elim (fun e => e ▸ ha) fun e => e ▸ hb
theorem lhand_eq : ∀ k ≤ 60, ∀ (S : Store) d, Rd S k d → f__law_hand (k + 1) [d] S = .ok (.bl (handB (k + 1) d)) S := by
  intro k
  induction k with
  | zero => intro hk S d hd; exact lhand_step (K := 0) hk hd fun U j x e _ => nomatch e
  | succ k ih =>
    intro hk S d hd
    refine lhand_step (K := k + 1) hk hd fun U j x e hx => ?_
    cases e
    exact ih (by omega) U x hx
theorem lhand40 (hd : Rd S k d) (hk : k ≤ 36) : f__law_hand 37 [d] S = .ok (.bl (handB 37 d)) S := lhand_eq 36 (by decide) S d (hd.up hk)
end
end Ev.K45
namespace Ev.K45
open PySem PySem.Spec PyProof.Rows L2 Ev
/-! the law's look at tests of all, and at claims -/
section
variable {S : Store} {Q : D → Store → Prop} {E : XP} {k : Nat} {d : D} {n : Nat}
theorem ltest_step {g : Fn} {K : Nat} (hk : k ≤ 36) (hd : Rd S k d) (hg : ∀ j x, k = j + 1 → Rd S j x → g [x, .int n] S = .ok (.bl (testB n K x)) S) : runBody (m__law_is_test g) 4 [d, .int n] S = .ok (.bl (testB n (K + 1) d)) S := by
  refine eq_of_wp ?_
  refine run_wp ?_
  walk_at "vc"
  simp only [hd.box]
  unfold m__law_is_test
  walk_at "nx"
  refine form_new (ws := tws) rfl rfl hd (by omega) ?_
  walk_at "vc"
  by_cases hform : formB tws d = true
  case neg =>
    have hf : testB n (K + 1) d = false := by
      cases z : testB n (K + 1) d with
      | false => rfl
      | true => exact absurd (test_form z) hform
    rw [hf]
    rw [Bool.not_eq_true] at hform
    rw [hform]
    walk_at "vc"
    exact closeR_same ⟨rfl, rfl⟩
  rw [hform]
  walk_at "vc"
  walk_at "go"
  cases tsh_of hform with
  | count a b c e =>
    obtain ⟨j, rfl, ha, hb, hc, he⟩ := rd_4 hd
    rw [tB_count]
    walk_at "if0"
    walk_at "nx"
    walk_at "sq"
    walk_at "vc"
    walk_at "nx"
    refine lfrom_wp ha ?_
    by_cases g1 : fromB 0 ((n : Int) - 1) a = true
    · rw [g1]
      walk_at "vc"
      rw [lhand40 hb (by omega)]
      walk_at "vc"
      walk_at "go"
      walk_at "vc"
      by_cases g2 : handB 37 b = true
      · rw [g2]
        walk_at "vc"
        refine lbound_wp (lo := some 0) (hi := some 6) hc ?_
        by_cases g3 : boundB (some 0) (some 6) c = true
        · rw [g3]
          walk_at "vc"
          refine lbound_wp (lo := some 0) (hi := some 6) he ?_
          walk_at "vc"
          exact closeR_same ⟨by simp [*], rfl⟩
        · rw [Bool.not_eq_true] at g3
          rw [g3]
          walk_at "vc"
          exact closeR_same ⟨by simp [*], rfl⟩
      · rw [Bool.not_eq_true] at g2
        rw [g2]
        walk_at "vc"
        exact closeR_same ⟨by simp [*], rfl⟩
    · rw [Bool.not_eq_true] at g1
      rw [g1]
      walk_at "vc"
      walk_at "go"
      walk_at "vc"
      exact closeR_same ⟨by simp [*], rfl⟩
  | letters a b c =>
    obtain ⟨j, rfl, ha, hb, hc⟩ := rd_3 hd
    rw [tB_letters]
    walk_at "nx"
    walk_at "sq"
    walk_at "vc"
    refine lfrom_wp ha ?_
    by_cases g1 : fromB 1 12 a = true
    · rw [g1]
      walk_at "vc"
      refine lbound_wp (lo := some 0) (hi := none) hb ?_
      by_cases g2 : boundB (some 0) none b = true
      · rw [g2]
        walk_at "vc"
        refine lbound_wp (lo := some 0) (hi := none) hc ?_
        walk_at "vc"
        exact closeR_same ⟨by simp [*], rfl⟩
      · rw [Bool.not_eq_true] at g2
        rw [g2]
        walk_at "vc"
        exact closeR_same ⟨by simp [*], rfl⟩
    · rw [Bool.not_eq_true] at g1
      rw [g1]
      walk_at "vc"
      exact closeR_same ⟨by simp [*], rfl⟩
  | not a =>
    obtain ⟨j, rfl, ha⟩ := rd_1 hd
    rw [tB_not]
    walk_at "if0"
    walk_at "if0"
    walk_at "vc"
    unfold q__law_is_test_1
    walk_at "vc"
    refine comp_bad (f := testB n K) (fun x hx => ⟨_, rfl, ?_, ?_⟩) ?_
    · walk_at "vc"
      simp only [List.mem_cons, List.not_mem_nil, or_false] at hx
      have hx : Rd _ j x := hx ▸ ha
      refine wp_eq (hg j x rfl hx) ?_
      walk_at "vc"
    · walk_at "vc"
      simp only [List.mem_cons, List.not_mem_nil, or_false] at hx
      have hx : Rd _ j x := hx ▸ ha
      exact hx.box
    walk_at "vc"
    rw [eq_nilR (k := j) (es := [a].filter fun x => !testB n K x) rfl (fun y hy => ?_) (by omega), filt_nil]
    · walk_at "vc"
      exact closeR_same ⟨by simp [*], rfl⟩
    · have := (List.mem_filter.mp hy).1
      simp only [List.mem_cons, List.not_mem_nil, or_false] at this
      exact this ▸ ha
  | both a b =>
    obtain ⟨j, rfl, ha, hb⟩ := rd_2 hd
    rw [tB_both]
    walk_at "if0"
    walk_at "if0"
    walk_at "vc"
    unfold q__law_is_test_1
    walk_at "vc"
    refine comp_bad (f := testB n K) (fun x hx => ⟨_, rfl, ?_, ?_⟩) ?_
    · walk_at "vc"
      simp only [List.mem_cons, List.not_mem_nil, or_false] at hx
      have hx : Rd _ j x := hx.elim (fun e => e ▸ ha) fun e => e ▸ hb
      refine wp_eq (hg j x rfl hx) ?_
      walk_at "vc"
    · walk_at "vc"
      simp only [List.mem_cons, List.not_mem_nil, or_false] at hx
      have hx : Rd _ j x := hx.elim (fun e => e ▸ ha) fun e => e ▸ hb
      exact hx.box
    walk_at "vc"
    rw [eq_nilR (k := j) (es := [a, b].filter fun x => !testB n K x) rfl (fun y hy => ?_) (by omega), filt_nil]
    · walk_at "vc"
      exact closeR_same ⟨by simp [*], rfl⟩
    · have := (List.mem_filter.mp hy).1
      simp only [List.mem_cons, List.not_mem_nil, or_false] at this
      exact this.elim (fun e => e ▸ ha) fun e => e ▸ hb
  | either a b =>
    obtain ⟨j, rfl, ha, hb⟩ := rd_2 hd
    rw [tB_either]
    walk_at "if0"
    walk_at "if0"
    walk_at "vc"
    unfold q__law_is_test_1
    walk_at "vc"
    refine comp_bad (f := testB n K) (fun x hx => ⟨_, rfl, ?_, ?_⟩) ?_
    · walk_at "vc"
      simp only [List.mem_cons, List.not_mem_nil, or_false] at hx
      have hx : Rd _ j x := hx.elim (fun e => e ▸ ha) fun e => e ▸ hb
      refine wp_eq (hg j x rfl hx) ?_
      walk_at "vc"
    · walk_at "vc"
      simp only [List.mem_cons, List.not_mem_nil, or_false] at hx
      have hx : Rd _ j x := hx.elim (fun e => e ▸ ha) fun e => e ▸ hb
      exact hx.box
    walk_at "vc"
    rw [eq_nilR (k := j) (es := [a, b].filter fun x => !testB n K x) rfl (fun y hy => ?_) (by omega), filt_nil]
    · walk_at "vc"
      exact closeR_same ⟨by simp [*], rfl⟩
    · have := (List.mem_filter.mp hy).1
      simp only [List.mem_cons, List.not_mem_nil, or_false] at this
      exact this.elim (fun e => e ▸ ha) fun e => e ▸ hb
theorem ltest_eq : ∀ k ≤ 36, ∀ d, Rd S k d → f__law_is_test (k + 1) [d, .int n] S = .ok (.bl (testB n (k + 1) d)) S := by
  intro k
  induction k with
  | zero => intro hk d hd; exact ltest_step (K := 0) hk hd fun j x e _ => nomatch e
  | succ k ih =>
    intro hk d hd
    refine ltest_step (K := k + 1) hk hd fun j x e hx => ?_
    cases e
    exact ih (by omega) x hx
theorem ltest40 (hd : Rd S k d) (hk : k ≤ 36) : f__law_is_test 37 [d, .int n] S = .ok (.bl (testB n 37 d)) S := ltest_eq 36 (by decide) d (hd.up hk)
theorem lclaim_eq (hk : k ≤ 37) (hd : Rd S k d) : f__law_is_claim [d, .int n] S = .ok (.bl (claimB n d)) S := by
  refine eq_of_wp ?_
  refine run_wp ?_
  walk_at "vc"
  simp only [hd.box]
  unfold m__law_is_claim
  walk_at "nx"
  refine form_new (ws := cws) rfl rfl hd (by omega) ?_
  walk_at "vc"
  by_cases hform : formB cws d = true
  case neg =>
    have hf : claimB n d = false := by
      cases z : claimB n d with
      | false => rfl
      | true => exact absurd (claim_form z) hform
    rw [hf]
    rw [Bool.not_eq_true] at hform
    rw [hform]
    walk_at "vc"
    exact closeR_same ⟨rfl, rfl⟩
  rw [hform]
  walk_at "vc"
  walk_at "go"
  cases csh_of hform with
  | never a =>
    obtain ⟨j, rfl, ha⟩ := rd_1 hd
    rw [cB_never]
    walk_at "vc"
    unfold q__law_is_claim_1
    walk_at "vc"
    refine comp_bad (f := testB n 37) (fun x hx => ⟨_, rfl, ?_, ?_⟩) ?_
    · walk_at "vc"
      simp only [List.mem_cons, List.not_mem_nil, or_false] at hx
      have hx : Rd _ j x := hx ▸ ha
      refine wp_eq (ltest40 hx (by omega)) ?_
      walk_at "vc"
    · walk_at "vc"
      simp only [List.mem_cons, List.not_mem_nil, or_false] at hx
      have hx : Rd _ j x := hx ▸ ha
      exact hx.box
    walk_at "vc"
    rw [eq_nilR (k := j) (es := [a].filter fun x => !testB n 37 x) rfl (fun y hy => ?_) (by omega), filt_nil]
    · walk_at "vc"
      exact closeR_same ⟨by simp [*], rfl⟩
    · have := (List.mem_filter.mp hy).1
      simp only [List.mem_cons, List.not_mem_nil, or_false] at this
      exact this ▸ ha
  | behind a b =>
    obtain ⟨j, rfl, ha, hb⟩ := rd_2 hd
    rw [cB_behind]
    walk_at "vc"
    unfold q__law_is_claim_1
    walk_at "vc"
    refine comp_bad (f := testB n 37) (fun x hx => ⟨_, rfl, ?_, ?_⟩) ?_
    · walk_at "vc"
      simp only [List.mem_cons, List.not_mem_nil, or_false] at hx
      have hx : Rd _ j x := hx.elim (fun e => e ▸ ha) fun e => e ▸ hb
      refine wp_eq (ltest40 hx (by omega)) ?_
      walk_at "vc"
    · walk_at "vc"
      simp only [List.mem_cons, List.not_mem_nil, or_false] at hx
      have hx : Rd _ j x := hx.elim (fun e => e ▸ ha) fun e => e ▸ hb
      exact hx.box
    walk_at "vc"
    rw [eq_nilR (k := j) (es := [a, b].filter fun x => !testB n 37 x) rfl (fun y hy => ?_) (by omega), filt_nil]
    · walk_at "vc"
      exact closeR_same ⟨by simp [*], rfl⟩
    · have := (List.mem_filter.mp hy).1
      simp only [List.mem_cons, List.not_mem_nil, or_false] at this
      exact this.elim (fun e => e ▸ ha) fun e => e ▸ hb
  | comes a b =>
    obtain ⟨j, rfl, ha, hb⟩ := rd_2 hd
    rw [cB_comes]
    walk_at "vc"
    unfold q__law_is_claim_1
    walk_at "vc"
    refine comp_bad (f := testB n 37) (fun x hx => ⟨_, rfl, ?_, ?_⟩) ?_
    · walk_at "vc"
      simp only [List.mem_cons, List.not_mem_nil, or_false] at hx
      have hx : Rd _ j x := hx.elim (fun e => e ▸ ha) fun e => e ▸ hb
      refine wp_eq (ltest40 hx (by omega)) ?_
      walk_at "vc"
    · walk_at "vc"
      simp only [List.mem_cons, List.not_mem_nil, or_false] at hx
      have hx : Rd _ j x := hx.elim (fun e => e ▸ ha) fun e => e ▸ hb
      exact hx.box
    walk_at "vc"
    rw [eq_nilR (k := j) (es := [a, b].filter fun x => !testB n 37 x) rfl (fun y hy => ?_) (by omega), filt_nil]
    · walk_at "vc"
      exact closeR_same ⟨by simp [*], rfl⟩
    · have := (List.mem_filter.mp hy).1
      simp only [List.mem_cons, List.not_mem_nil, or_false] at this
      exact this.elim (fun e => e ▸ ha) fun e => e ▸ hb
end
end Ev.K45
namespace Ev.K45
open PySem PySem.Spec PyProof.Rows L2 Ev
/-! what is refused -/
section
variable {S : Store} {Q : D → Store → Prop} {E : XP} {k : Nat} {d : D} {n : Nat}
theorem in_bls {m : Nat} {x : D} {U : Store} (h : seqA U x = some (List.replicate m (.bl false))) : inD true (.bl true) x U = some (.bl true) := by
  have hf : ∀ m, (List.replicate m (D.bl false)).mapM flatD = some (List.replicate m (V.bl false)) := fun m => by
    induction m with
    | zero => rfl
    | succ m ih => rw [List.replicate_succ, List.mapM_cons, ih]; rfl
  have hi : ∀ m, inV (.bl true) (List.replicate m (V.bl false)) = false := fun m => by
    unfold inV
    induction m with
    | zero => rfl
    | succ m ih => rw [List.replicate_succ, List.any_cons, ih]; rfl
  unfold inD
  cases x <;> first
    | (simp only [flatD, h, hf, hi]; rfl)
    | cases h
theorem refused_wp (ht : Tabs2 S) (hd : Rd S k d) (hk : k ≤ 37) (hc : claimB n d = false) (q : Q (.bl true) S) : (f__law_refused [progD n, d] S).wp Q E := by
  have hp : ∀ U, box (progD n) U = (progD n, U) := fun _ => rfl
  refine run_wp ?_
  walk_at "vc"
  simp only [hd.box, hp]
  walk_at "vc"
  unfold m__law_refused
  walk_at "st"
  refine sw_seq fun N hN => ?_
  refine tryAs_expr ?_
  walk_at "vc"
  refine look_wp ht hd hk (fun h => absurd (hc.symm.trans h) (by decide)) fun _ => ?_
  unfold XTa
  have hx : isxOf x_LetterError "NoClaim" = some true := by unfold isxOf x_LetterError; walk_at "ls"
  rw [hx]
  dsimp only
  have l1 : is_NoStep.lookup ("NoClaim" : Str) = some false := by unfold is_NoStep; walk_at "ls"
  have l2 : is_NoProgram.lookup ("NoClaim" : Str) = some false := by unfold is_NoProgram; walk_at "ls"
  have l3 : is_NoMove.lookup ("NoClaim" : Str) = some false := by unfold is_NoMove; walk_at "ls"
  have l4 : is_NoText.lookup ("NoClaim" : Str) = some false := by unfold is_NoText; walk_at "ls"
  have l5 : is_NoRenaming.lookup ("NoClaim" : Str) = some false := by unfold is_NoRenaming; walk_at "ls"
  have l6 : is_NoTalk.lookup ("NoClaim" : Str) = some false := by unfold is_NoTalk; walk_at "ls"
  have l7 : is_CantKnow.lookup ("NoClaim" : Str) = some false := by unfold is_CantKnow; walk_at "ls"
  have l8 : is_NoLine.lookup ("NoClaim" : Str) = some false := by unfold is_NoLine; walk_at "ls"
  have l9 : is_NoClaim.lookup ("NoClaim" : Str) = some true := by unfold is_NoClaim; walk_at "ls"
  have l10 : is_ValueError.lookup ("NoClaim" : Str) = some true := by unfold is_ValueError; walk_at "ls"
  refine asOut_wp (r := .next [some (progD n), some d, some (.bl true), none, some (.ref (S.length + 1))] (S ++ [.lst (List.replicate 4 (.bl false)), .lst (List.replicate 8 (.bl false))])) (fun a dx => ?_) ?_
  · rw [l1, l2, l3, l4, l5, l6, l7, l8, l9, l10]
    have hh : ∀ x2 x4 o U, mIsE 3 a dx o [some (progD n), some d, x2, some (.exn a dx [] []), x4] U = Out.of (o.map D.bl) U := fun x2 x4 o U => by
      unfold mIsE; rw [xheld_at (ks := []) (ds := []) rfl]
    show unb 3 ((sSeq _ _) [some (progD n), some d, some (.bl false), some (.exn a dx [] []), none] S) = _
    walk_at "ev"
    simp only [hh, Option.map_some, of_some, bind_ok, tru_bl]
    walk_at "vc"
    simp only [hh, Option.map_some, of_some, bind_ok, tru_bl]
    walk_at "vc"
    rw [cat_ref (T := []) (sz_le (by decide))]
    walk_at "vc"
    simp only [hh, Option.map_some, of_some, bind_ok, tru_bl]
    walk_at "vc"
    simp only [hh, Option.map_some, of_some, bind_ok, tru_bl]
    walk_at "vc"
    rw [in_bls (m := 8) (by rw [seqA_ref, getT]; rfl)]
    walk_at "vc"
    rfl
  · walk_at "vc"
    refine hN _ _ ?_
    walk_at "vc"
    exact closeR_app rfl q
end
end Ev.K45
namespace Ev.K45
open PySem PySem.Spec PyProof.Rows L2 Ev
/-! claims spoiled -/
section
variable {S : Store} {Q : D → Store → Prop} {E : XP} {k : Nat} {d : D} {n : Nat}
/-- plain, whatever the store -/
def Pl (k : Nat) (d : D) : Prop := ∀ U, Rd U k d
/-- plain, or a new list of plain things -/
def Rn (k : Nat) (e : D) : Prop := Pl k e ∨ ∃ ds j, e = .lst ds ∧ k = j + 1 ∧ ∀ x ∈ ds, Pl j x
theorem Pl.up {m : Nat} (h : Pl k d) (hm : k ≤ m) : Pl m d := fun U => (h U).up hm
theorem Pl.lo {m : Nat} (h : Pl k d) : d.lo m = true := by
  have key : ∀ (U : Store) (k : Nat) (d : D), Rd U k d → U = [] → d.lo m = true := by
    intro U k d h
    induction h with
    | tup ds _ _ ih => intro e; rw [lo_tup]; exact loL_of fun x hx => ih x hx e
    | ref n ds e _ _ => intro e2; rw [e2] at e; cases e
    | _ => intro _; rfl
  exact key [] k d (h []) rfl
theorem pl_tup {ds : List D} (hl : ds.length ≤ 1000) (h : ∀ x ∈ ds, Pl k x) : Pl (k + 1) (.tup ds) := fun U => .tup ds hl fun x hx => h x hx U
theorem pl_in {ds : List D} (h : Pl k (.tup ds)) : ∃ j, k = j + 1 ∧ ds.length ≤ 1000 ∧ ∀ x ∈ ds, Pl j x := by
  obtain ⟨j, e, hl, _⟩ := rd_in (h [])
  subst e
  refine ⟨j, rfl, hl, fun x hx U => ?_⟩
  obtain ⟨j2, e2, _, hh⟩ := rd_in (h U)
  cases e2
  exact hh x hx
theorem pl_ref {m : Nat} (h : Pl k (.ref m)) : False := by
  have := h []
  cases this with
  | ref n ds e _ => cases e
theorem Rn.box {U : Store} {e : D} (h : Rn k e) : Rd (Ev.box e U).2 k (Ev.box e U).1 ∧ ∃ T, (Ev.box e U).2 = U ++ T := by
  rcases h with h | ⟨ds, j, rfl, rfl, h⟩
  · rw [(h U).box]; exact ⟨h U, [], by simp⟩
  · refine ⟨?_, [.lst ds], rfl⟩
    show Rd (U ++ [.lst ds]) (j + 1) (.ref U.length)
    exact .ref _ ds (by rw [getT0]; rfl) h
theorem cutL_mem {ds : List D} {lo hi : Option Int} : (cutL ds lo hi).length ≤ ds.length ∧ ∀ x ∈ cutL ds lo hi, x ∈ ds := by
  unfold cutL
  refine ⟨by rw [List.length_take, List.length_drop]; omega, fun x hx => ?_⟩
  exact List.mem_of_mem_drop (List.mem_of_mem_take hx)
theorem cut_tupD {ds : List D} {lo hi : Option Int} {S : Store} : cutD (.tup ds) lo hi S = some (.tup (cutL ds lo hi)) := rfl
theorem eight {i : Int} (h0 : 0 ≤ i) (h1 : i < 8) : i = 0 ∨ i = 1 ∨ i = 2 ∨ i = 3 ∨ i = 4 ∨ i = 5 ∨ i = 6 ∨ i = 7 := by omega
theorem ten {i : Int} (h0 : 0 ≤ i) (h1 : i < 10) : i = 0 ∨ i = 1 ∨ i = 2 ∨ i = 3 ∨ i = 4 ∨ i = 5 ∨ i = 6 ∨ i = 7 ∨ i = 8 ∨ i = 9 := by omega
theorem odd_tup {ds : List D} {i : Int} (hd : Pl k (.tup ds)) (hz : ds.length ≤ 400) (q : ∀ e, Rn (k + 1) e → Q e S) : (f__law_odd [.tup ds, .int i] S).wp Q E := by
  obtain ⟨j, rfl, hl, hh⟩ := pl_in hd
  refine run_wp ?_
  walk_at "vc"
  unfold m__law_odd
  walk_at "nx"
  refine sw_seq fun N2 hN2 => ?_
  walk_at "vc"
  rw [blt_listA (d := .tup ds) (ds := ds) rfl]
  walk_at "vc"
  rw [add_tup (by simp; exact sz_le (by omega))]
  walk_at "vc"
  rw [cut_tupD]
  walk_at "vc"
  rw [cut_tupD]
  walk_at "vc"
  rw [cut_tupD]
  walk_at "vc"
  rw [cut_tupD]
  walk_at "vc"
  obtain ⟨l1, m1⟩ := cutL_mem (ds := ds) (lo := some (-1)) (hi := none)
  obtain ⟨l2, m2⟩ := cutL_mem (ds := ds) (lo := none) (hi := some (-1))
  obtain ⟨l3, m3⟩ := cutL_mem (ds := ds) (lo := none) (hi := some 1)
  obtain ⟨l4, m4⟩ := cutL_mem (ds := ds) (lo := some 1) (hi := none)
  generalize cutL ds (some (-1)) none = c1 at *
  generalize cutL ds none (some (-1)) = c2 at *
  generalize cutL ds none (some 1) = c3 at *
  generalize cutL ds (some 1) none = c4 at *
  rw [add_tup (sz_le (by omega))]
  walk_at "vc"
  refine hN2 _ _ ?_
  clear hN2 N2
  walk_at "vc"
  rw [if_pos (show (0 : Int) < 8 by decide)]
  walk_at "vc"
  have a0 := Int.emod_nonneg i (b := 8) (by decide)
  have a1 := Int.emod_lt_of_pos i (b := 8) (by decide)
  have p1 : Pl (j + 1 + 1) (.tup (ds ++ [.int 1])) := (pl_tup (k := j) (by simp; omega) fun x hx => by
    rcases List.mem_append.mp hx with hx | hx
    · exact hh x hx
    · cases List.mem_singleton.mp hx; exact fun U => .int 1).up (by omega)
  have sub : ∀ c : List D, c.length ≤ ds.length → (∀ x ∈ c, x ∈ ds) → Pl (j + 1 + 1) (.tup c) := fun c hc hm => (pl_tup (k := j) (by omega) fun x hx => hh x (hm x hx)).up (by omega)
  have p7 : Pl (j + 1 + 1) (.tup (ds ++ c1)) := (pl_tup (k := j) (by simp; omega) fun x hx => by
    rcases List.mem_append.mp hx with hx | hx
    · exact hh x hx
    · exact hh x (m1 x hx)).up (by omega)
  have ix : ∀ (z : Int) (e : D), 0 ≤ z → [D.ref S.length, .tup (ds ++ [.int 1]), .tup c2, .tup c3, .tup [], .non, .tup c4, .tup (ds ++ c1)][z.toNat]? = some e → idxD (.ref (S.length + 1)) (.int z) (S ++ [.lst ds, .lst [.ref S.length, .tup (ds ++ [.int 1]), .tup c2, .tup c3, .tup [], .non, .tup c4, .tup (ds ++ c1)]]) = some e := fun z e h0 h => idx_any (by rw [seqA_ref, getT]; rfl) (fun _ h => nomatch h) h0 h
  have fin : ∀ {e : D} {T : Store}, Pl (j + 1 + 1) e → closeR S Q e (S ++ T) := fun {e T} h => closeR_app h.lo (q e (.inl h))
  rcases eight a0 a1 with e | e | e | e | e | e | e | e <;> rw [e, ix _ _ (by decide) rfl]
  · have z := closeD_new (S := S) (T := [.lst ds, .lst [.ref S.length, .tup (ds ++ [.int 1]), .tup c2, .tup c3, .tup [], .non, .tup c4, .tup (ds ++ c1)]]) (k := 0) (ds := ds) (loL_of fun x hx => (hh x hx).lo) rfl
    exact closeR_eq z (q _ (.inr ⟨ds, j + 1, rfl, rfl, fun x hx => (hh x hx).up (by omega)⟩))
  · exact fin p1
  · exact fin (sub _ l2 m2)
  · exact fin (sub _ l3 m3)
  · exact fin (sub [] (Nat.zero_le _) fun _ h => nomatch h)
  · exact fin fun U => .non
  · exact fin (sub _ l4 m4)
  · exact fin p7
theorem odd_wp {i : Int} (hd : Pl k d) (hz : ∀ ds, d = .tup ds → ds.length ≤ 400) (q : ∀ e, Rn (k + 1) e → Q e S) : (f__law_odd [d, .int i] S).wp Q E := by
  have st : ∀ {w : Str}, PyData.strOk w = true → Rn (k + 1) (.str w) := fun h => .inl fun U => .str _ h
  have it : ∀ {z : Int}, Rn (k + 1) (.int z) := .inl fun U => .int _
  have tp : Rn (k + 1) (.tup [.int 0]) := .inl (pl_tup (by decide) fun x hx => by cases List.mem_singleton.mp hx; exact fun U => .int 0)
  have a0 := Int.emod_nonneg i (b := 10) (by decide)
  have a1 := Int.emod_lt_of_pos i (b := 10) (by decide)
  cases d with
  | tup ds => exact odd_tup hd (hz ds rfl) q
  | str x =>
    refine run_wp ?_
    walk_at "vc"
    unfold m__law_odd
    walk_at "nx"
    walk_at "go"
    walk_at "nx"
    rw [if_pos (show (0 : Int) < 10 by decide)]
    walk_at "vc"
    rcases ten a0 a1 with e | e | e | e | e | e | e | e | e | e <;> rw [e, idx_lst (by decide) rfl] <;> first
      | exact closeR_same (q _ (st (by decide +kernel)))
      | exact closeR_same (q _ it)
  | ref m => exact (pl_ref hd).elim
  | non | bl b | int z =>
    refine run_wp ?_
    walk_at "vc"
    unfold m__law_odd
    walk_at "nx"
    walk_at "go"
    walk_at "nx"
    walk_at "go"
    walk_at "vc"
    rw [if_pos (show (0 : Int) < 10 by decide)]
    walk_at "vc"
    rcases ten a0 a1 with e | e | e | e | e | e | e | e | e | e <;> rw [e, idx_lst (by decide) rfl] <;> first
      | exact closeR_same (q _ it)
      | exact closeR_same (q _ (.inl fun U => .bl _))
      | exact closeR_same (q _ (.inl fun U => .non))
      | exact closeR_same (q _ (st (by decide +kernel)))
      | exact closeR_same (q _ tp)
  | _ => have z := hd []; cases z
end
end Ev.K45
namespace Ev.K45
open PySem PySem.Spec PyProof.Rows L2 Ev
/-! claims spoiled somewhere within -/
section
variable {S : Store} {Q : D → Store → Prop} {E : XP} {k : Nat} {d : D} {n : Nat}
theorem loL_all {n : Nat} {ds : List D} (h : loL n ds = true) : ∀ d ∈ ds, d.lo n = true := by
  induction ds with
  | nil => intro e he; cases he
  | cons d ds ih =>
    rw [loL_cons, Bool.and_eq_true] at h
    intro e he
    rcases List.mem_cons.mp he with rfl | he
    · exact h.1
    · exact ih h.2 e he
theorem rd_cut {U T : Store} {e : D} (h : Rd (U ++ T) k e) (hl : e.lo U.length = true) : Rd U k e := by
  generalize hV : U ++ T = V at h
  induction h with
  | non => exact .non
  | bl b => exact .bl b
  | int i => exact .int i
  | str x hx => exact .str x hx
  | tup ds hn _ ih => exact .tup ds hn fun d hd => ih d hd (loL_all (by rw [lo_tup] at hl; exact hl) d hd) hV
  | ref m ds e hh _ =>
    subst hV
    have hk : m < U.length := by unfold D.lo at hl; exact of_decide_eq_true hl
    exact .ref m ds (by rw [List.getElem?_append_left hk] at e; exact e) hh
theorem clean_set {c : Nat} {ys : List Int} {T : Store} : Clean S (S.set c (.lst (ys.map .int)) ++ T) := fun j hj => by
  rw [List.getElem?_append_left (by rw [List.length_set]; exact hj), List.getElem?_set]
  by_cases e : c = j
  · subst e
    rw [if_pos rfl, if_pos hj]
    exact .inr ⟨_, rfl, lo_ints⟩
  · rw [if_neg e]; exact .inl rfl
/-- plain and small -/
inductive Sm : Nat → D → Prop
  | non {k : Nat} : Sm k .non
  | bl {k : Nat} (b : Bool) : Sm k (.bl b)
  | int {k : Nat} (i : Int) : Sm k (.int i)
  | str {k : Nat} (x : Str) : PyData.strOk x = true → Sm k (.str x)
  | tup {k : Nat} (ds : List D) : ds.length ≤ 10 → (∀ d ∈ ds, Sm k d) → Sm (k + 1) (.tup ds)
theorem Sm.pl (h : Sm k d) : Pl k d := by
  induction h with
  | non => exact fun U => .non
  | bl b => exact fun U => .bl b
  | int i => exact fun U => .int i
  | str x hx => exact fun U => .str x hx
  | tup ds hl _ ih => exact pl_tup (by omega) ih
theorem Sm.up {m : Nat} (h : Sm k d) : k ≤ m → Sm m d := by
  intro hm
  induction h generalizing m with
  | non => exact .non
  | bl b => exact .bl b
  | int i => exact .int i
  | str x h => exact .str x h
  | tup ds hl _ ih =>
    obtain ⟨m, rfl⟩ : ∃ j, m = j + 1 := ⟨m - 1, by omega⟩
    exact .tup ds hl fun d hd => ih d hd (by omega)
theorem Sm.len {ds : List D} (h : Sm k (.tup ds)) : ∃ j, k = j + 1 ∧ ds.length ≤ 10 ∧ ∀ x ∈ ds, Sm j x := by
  cases h with
  | tup _ hl hh => exact ⟨_, rfl, hl, hh⟩
/-- what comes of it, ahead of the return: plain, a tuple, or a new list -/
def Raw (U : Store) (k : Nat) (e : D) : Prop := (Rd U k e ∧ ∀ m, e ≠ .ref m) ∨ ∃ ds j, e = .lst ds ∧ k = j + 1 ∧ ∀ x ∈ ds, Pl j x
theorem Rn.raw {U : Store} {e : D} (h : Rn k e) : Raw U k e := by
  rcases h with h | h
  · exact .inl ⟨h U, fun m z => pl_ref (z ▸ h)⟩
  · exact .inr h
theorem closeR_raw {c : Nat} {ys : List Int} {T : Store} {e : D} (he : Raw (S.set c (.lst (ys.map .int)) ++ T) k e) (q : ∀ T', Raw (S.set c (.lst (ys.map .int)) ++ T') k e → Q e (S.set c (.lst (ys.map .int)) ++ T')) : closeR S Q e (S.set c (.lst (ys.map .int)) ++ T) := by
  cases hl : e.lo S.length with
  | true =>
    refine closeR_eq (closeD_set rfl lo_ints hl) ?_
    have := q [] (he.elim (fun h => .inl ⟨by rw [List.append_nil]; exact rd_cut h.1 (by rw [List.length_set]; exact hl), h.2⟩) .inr)
    rwa [List.append_nil] at this
  | false =>
    rcases he with ⟨h, hr⟩ | ⟨ds, j, rfl, hj, h⟩
    · exact closeR_keep' clean_set hl hr (q T (.inl ⟨h, hr⟩))
    · have : (D.lst ds).lo S.length = true := by
        show loL _ ds = true
        exact loL_of fun x hx => (h x hx).lo
      rw [this] at hl; cases hl
theorem closeR_new {T : Store} {e : D} (he : Raw (S ++ T) k e) (q : ∀ T', Raw (S ++ T') k e → Q e (S ++ T')) : closeR S Q e (S ++ T) := by
  cases hl : e.lo S.length with
  | true =>
    refine closeR_app hl ?_
    have := q [] (he.elim (fun h => .inl ⟨by rw [List.append_nil]; exact rd_cut h.1 hl, h.2⟩) .inr)
    rwa [List.append_nil] at this
  | false =>
    rcases he with ⟨h, hr⟩ | ⟨ds, j, rfl, hj, h⟩
    · exact closeR_keep' (Clean.app T) hl hr (q T (.inl ⟨h, hr⟩))
    · have : (D.lst ds).lo S.length = true := by
        show loL _ ds = true
        exact loL_of fun x hx => (h x hx).lo
      rw [this] at hl; cases hl
section
variable {N : Env' → Store → Prop} {R : D → Store → Prop} {B C : Env' → Store → Prop} {X : XP}
theorem spoil_m0 {fuel c : Nat} {xs : List Int} (hc : S[c]? = some (.lst (xs.map .int))) (hn : 0 < xs.length) (hk : k ≤ 50) (hd : Sm k d) (q : ∀ (e : D) (ys : List Int) (T : Store), Raw (S.set c (.lst (ys.map .int)) ++ T) (k + 1) e → R e (S.set c (.lst (ys.map .int)) ++ T)) :
    (m__law_spoiled (f__law_spoiled fuel) [some d, some (.ref c), some (.int ((0 : Nat) : Int)), none, none] S).wp N R B C X := by
  cases xs with
  | nil => simp at hn
  | cons x rest =>
  unfold m__law_spoiled
  refine sw_seq fun N hN => ?_
  refine pop_asg (c := c) rfl hc ?_
  walk_at "go"
  walk_at "nx"
  walk_at "go"
  walk_at "vc"
  walk_at "nm"
  refine odd_wp hd.pl (fun ds e => by subst e; obtain ⟨_, _, h, _⟩ := hd.len; omega) fun e he => ?_
  have := q e rest [] he.raw
  rwa [List.append_nil] at this
theorem spoil_ms {deep fuel c : Nat} {xs : List Int} (ih : ∀ {S : Store} {c : Nat} {xs : List Int} {Q : D → Store → Prop} {E : XP} {d : D} {k : Nat}, S[c]? = some (.lst (xs.map .int)) → deep < xs.length → k ≤ 50 → Sm k d →
    (∀ (e : D) (ys : List Int) (T : Store), Raw (S.set c (.lst (ys.map .int)) ++ T) (k + 1) e → Q e (S.set c (.lst (ys.map .int)) ++ T)) → (f__law_spoiled fuel [d, .ref c, .int deep] S).wp Q E)
    (hc : S[c]? = some (.lst (xs.map .int))) (hn : deep + 1 < xs.length) (hk : k ≤ 50) (hd : Sm k d) (q : ∀ (e : D) (ys : List Int) (T : Store), Raw (S.set c (.lst (ys.map .int)) ++ T) (k + 1) e → R e (S.set c (.lst (ys.map .int)) ++ T)) :
    (m__law_spoiled (f__law_spoiled fuel) [some d, some (.ref c), some (.int ((deep + 1 : Nat) : Int)), none, none] S).wp N R B C X := by
  cases xs with
  | nil => simp at hn
  | cons x rest =>
  rw [List.length_cons] at hn
  unfold m__law_spoiled
  refine sw_seq fun N hN => ?_
  refine pop_asg (c := c) rfl hc ?_
  walk_at "go"
  obtain ⟨S1, hS1⟩ : ∃ S1, S1 = S.set c (.lst (rest.map .int)) := ⟨_, rfl⟩
  have hc1 : S1[c]? = some (.lst (rest.map .int)) := by rw [hS1]; exact get_set hc
  have hset : ∀ y, S1.set c y = S.set c y := fun y => by rw [hS1, List.set_set]
  have ln : S1.length = S.length := by rw [hS1, List.length_set]
  rw [← hS1]
  walk_at "nx"
  have leaf : N [some d, some (.ref c), some (.int ((deep + 1 : Nat) : Int)), some (.int x), none] S1 := by
    walk_at "go"
    walk_at "vc"
    walk_at "nm"
    refine odd_wp hd.pl (fun ds e => by subst e; obtain ⟨_, _, h, _⟩ := hd.len; omega) fun e he => ?_
    rw [hS1]
    have := q e rest [] he.raw
    rwa [List.append_nil] at this
  rw [decide_eq_true (show (0 : Int) < ((deep + 1 : Nat) : Int) by omega)]
  walk_at "vc"
  cases hd with
  | tup ds hl hh =>
    have hd := Sm.tup ds hl hh
    rename_i j
    walk_at "vc"
    rw [(hd.pl S1).eqT (by omega)]
    cases ds with
    | nil => simp only [isNil]; walk_at "vc"; exact leaf
    | cons d0 ds =>
    simp only [isNil]
    walk_at "vc"
    walk_at "nm"
    by_cases hx4 : 0 < x % 4
    case neg =>
      rw [decide_eq_false hx4]
      walk_at "vc"
      exact leaf
    rw [decide_eq_true hx4]
    walk_at "vc"
    clear leaf
    obtain ⟨es, he⟩ : ∃ es, es = d0 :: ds := ⟨_, rfl⟩
    rw [← he] at hl hh hd ⊢
    have lp : 0 < es.length := by rw [he]; simp
    clear he
    walk_at "nx"
    walk_at "nm"
    rw [blt_lenA (d := .tup es) rfl (fun _ h => nomatch h)]
    walk_at "vc"
    rw [if_pos (show (0 : Int) < (es.length : Nat) by omega)]
    walk_at "vc"
    have a0 := Int.emod_nonneg (x / 4) (b := ((es.length : Nat) : Int)) (by omega)
    have a1 := Int.emod_lt_of_pos (x / 4) (show (0 : Int) < (es.length : Nat) by omega)
    generalize x / 4 % ((es.length : Nat) : Int) = a at a0 a1
    walk_at "go"
    walk_at "vc"
    rw [cut_tupD]
    walk_at "vc"
    have ha : es[a.toNat]? = some es[a.toNat] := List.getElem?_eq_getElem (by omega)
    have hm := List.mem_of_getElem? ha
    generalize es[a.toNat] = y at ha hm
    rw [idx_any (d := .tup es) (ds := es) (e := y) rfl (fun _ h => nomatch h) a0 ha]
    walk_at "vc"
    rw [show ((deep + 1 : Nat) : Int) - 1 = (deep : Nat) by omega]
    refine ih hc1 (by omega) (by omega) (hh y hm) fun e ys T he => ?_
    rw [hset] at he ⊢
    have hn2 : Rn (j + 1) e ∨ Rd (S.set c (.lst (ys.map .int)) ++ T) (j + 1) e := by
      rcases he with he | he
      · exact .inr he.1
      · exact .inl (.inr he)
    have bx : ∃ T2, (box e (S.set c (.lst (ys.map .int)) ++ T)).2 = S.set c (.lst (ys.map .int)) ++ T2 ∧ Rd (S.set c (.lst (ys.map .int)) ++ T2) (j + 1) (box e (S.set c (.lst (ys.map .int)) ++ T)).1 := by
      rcases hn2 with h | h
      · obtain ⟨h1, T2, h2⟩ := h.box (U := S.set c (.lst (ys.map .int)) ++ T)
        rw [List.append_assoc] at h2
        rw [h2] at h1
        exact ⟨T ++ T2, h2, h1⟩
      · rw [h.box]; exact ⟨T, rfl, h⟩
    obtain ⟨T2, b1, b2⟩ := bx
    generalize box e (S.set c (.lst (ys.map .int)) ++ T) = z at b1 b2
    obtain ⟨z1, z2⟩ := z
    subst b1
    dsimp only at b2 ⊢
    walk_at "vc"
    obtain ⟨l1, m1⟩ := cutL_mem (ds := es) (lo := none) (hi := some a)
    obtain ⟨l2, m2⟩ := cutL_mem (ds := es) (lo := some (a + 1)) (hi := none)
    rw [add_tup (sz_le (by simp; omega))]
    walk_at "vc"
    rw [cut_tupD]
    walk_at "vc"
    rw [add_tup (sz_le (by simp; omega))]
    walk_at "vc"
    have rr : Rd (S.set c (.lst (ys.map .int)) ++ T2) (j + 1 + 1) (.tup (cutL es none (some a) ++ [z1] ++ cutL es (some (a + 1)) none)) := by
      refine .tup _ (by simp; omega) fun w hw => ?_
      rcases List.mem_append.mp hw with hw | hw
      · rcases List.mem_append.mp hw with hw | hw
        · exact ((hh w (m1 w hw)).pl _).up (by omega)
        · cases List.mem_singleton.mp hw; exact b2
      · exact ((hh w (m2 w hw)).pl _).up (by omega)
    simp only [List.append_assoc, List.cons_append, List.nil_append] at rr
    exact q _ ys T2 (.inl ⟨rr, fun _ z => nomatch z⟩)
  | non => walk_at "vc"; exact leaf
  | bl b => walk_at "vc"; exact leaf
  | int b => walk_at "vc"; exact leaf
  | str b hb => walk_at "vc"; exact leaf
end
theorem spoil_wp : ∀ (deep fuel : Nat), deep < fuel → ∀ {S : Store} {c : Nat} {xs : List Int} {Q : D → Store → Prop} {E : XP} {d : D} {k : Nat}, S[c]? = some (.lst (xs.map .int)) → deep < xs.length → k ≤ 50 → Sm k d →
    (∀ (e : D) (ys : List Int) (T : Store), Raw (S.set c (.lst (ys.map .int)) ++ T) (k + 1) e → Q e (S.set c (.lst (ys.map .int)) ++ T)) → (f__law_spoiled fuel [d, .ref c, .int deep] S).wp Q E := by
  intro deep
  induction deep with
  | zero =>
    intro fuel hf S c xs Q E d k hc hn hk hd q
    obtain ⟨fuel, rfl⟩ : ∃ j, fuel = j + 1 := ⟨fuel - 1, by omega⟩
    refine run_wp ?_
    walk_at "vc"
    simp only [(hd.pl S).box]
    walk_at "vc"
    exact spoil_m0 hc hn hk hd fun e ys T h => closeR_raw h fun T' h => q e ys T' h
  | succ deep ih =>
    intro fuel hf S c xs Q E d k hc hn hk hd q
    obtain ⟨fuel, rfl⟩ : ∃ j, fuel = j + 1 := ⟨fuel - 1, by omega⟩
    refine run_wp ?_
    walk_at "vc"
    simp only [(hd.pl S).box]
    walk_at "vc"
    exact spoil_ms (ih fuel (by omega)) hc hn hk hd fun e ys T h => closeR_raw h fun T' h => q e ys T' h
/-- by a list just drawn -/
theorem spoil_new {xs : List Int} (hn : 6 < xs.length) (hk : k ≤ 50) (hd : Sm k d) (q : ∀ (e : D) (T : Store), Raw (S ++ T) (k + 1) e → Q e (S ++ T)) : (f__law_spoiled 37 [d, .lst (xs.map .int), .int 6] S).wp Q E := by
  refine run_wp ?_
  walk_at "vc"
  simp only [(hd.pl S).box]
  walk_at "vc"
  refine spoil_ms (deep := 5) (spoil_wp 5 36 (by decide)) (by rw [getT0]; rfl) hn hk hd fun e ys T h => ?_
  rw [setT0, List.append_assoc] at h ⊢
  exact closeR_new h fun T' h => q e T' h
end
end Ev.K45
namespace Ev.K45
open PySem PySem.Spec PyProof.Rows L2 Ev
/-! claims drawn -/
section
variable {S : Store} {Q : D → Store → Prop} {E : XP} {k : Nat} {d : D} {n : Nat}
theorem bd_sm {b : Option Int} : Sm k (bdD b) := by
  cases b with
  | none => exact .non
  | some z => exact .int z
theorem HT.sm : ∀ t : HT, Sm (t.dep + 1) t.d
  | .at p => by
    refine .tup _ (by simp) fun x hx => ?_
    simp only [List.mem_cons, List.not_mem_nil, or_false] at hx
    rcases hx with rfl | rfl
    · exact .str _ (by decide +kernel)
    · exact .int _
  | .num a lo hi => by
    refine .tup _ (by simp) fun x hx => ?_
    simp only [List.mem_cons, List.not_mem_nil, or_false] at hx
    rcases hx with rfl | rfl | rfl | rfl
    · exact .str _ (by decide +kernel)
    · exact .int _
    · exact bd_sm
    · exact bd_sm
  | .has a => by
    refine .tup _ (by simp) fun x hx => ?_
    simp only [List.mem_cons, List.not_mem_nil, or_false] at hx
    rcases hx with rfl | rfl
    · exact .str _ (by decide +kernel)
    · exact .int _
  | .many a b => by
    refine .tup _ (by simp) fun x hx => ?_
    simp only [List.mem_cons, List.not_mem_nil, or_false] at hx
    rcases hx with rfl | rfl | rfl
    · exact .str _ (by decide +kernel)
    · exact .int _
    · exact .int _
  | .bell => by
    refine .tup _ (by simp) fun x hx => ?_
    simp only [List.mem_cons, List.not_mem_nil, or_false] at hx
    subst hx; exact .str _ (by decide +kernel)
  | .fallen => by
    refine .tup _ (by simp) fun x hx => ?_
    simp only [List.mem_cons, List.not_mem_nil, or_false] at hx
    subst hx; exact .str _ (by decide +kernel)
  | .not t => by
    have h := HT.sm t
    refine .tup _ (by simp) fun x hx => ?_
    simp only [List.mem_cons, List.not_mem_nil, or_false] at hx
    rcases hx with rfl | rfl
    · exact .str _ (by decide +kernel)
    · exact h
  | .both t u => by
    have h1 := HT.sm t
    have h2 := HT.sm u
    refine .tup _ (by simp) fun x hx => ?_
    simp only [List.mem_cons, List.not_mem_nil, or_false] at hx
    rcases hx with rfl | rfl | rfl
    · exact .str _ (by decide +kernel)
    · exact h1.up (by show _ ≤ max t.dep u.dep + 1; omega)
    · exact h2.up (by show _ ≤ max t.dep u.dep + 1; omega)
  | .either t u => by
    have h1 := HT.sm t
    have h2 := HT.sm u
    refine .tup _ (by simp) fun x hx => ?_
    simp only [List.mem_cons, List.not_mem_nil, or_false] at hx
    rcases hx with rfl | rfl | rfl
    · exact .str _ (by decide +kernel)
    · exact h1.up (by show _ ≤ max t.dep u.dep + 1; omega)
    · exact h2.up (by show _ ≤ max t.dep u.dep + 1; omega)
theorem WT.sm : ∀ t : WT, t.Ok → Sm (t.dep + 11) t.d
  | .count r t lo hi, h => by
    have h1 := HT.sm t
    have hd : t.dep ≤ 8 := h.1.2
    refine .tup _ (by simp) fun x hx => ?_
    simp only [List.mem_cons, List.not_mem_nil, or_false] at hx
    rcases hx with rfl | rfl | rfl | rfl | rfl
    · exact .str _ (by decide +kernel)
    · exact .int _
    · exact h1.up (by show _ ≤ 0 + 10; omega)
    · exact bd_sm
    · exact bd_sm
  | .letters a lo hi, _ => by
    refine .tup _ (by simp) fun x hx => ?_
    simp only [List.mem_cons, List.not_mem_nil, or_false] at hx
    rcases hx with rfl | rfl | rfl | rfl
    · exact .str _ (by decide +kernel)
    · exact .int _
    · exact bd_sm
    · exact bd_sm
  | .not t, h => by
    have h := WT.sm t h
    refine .tup _ (by simp) fun x hx => ?_
    simp only [List.mem_cons, List.not_mem_nil, or_false] at hx
    rcases hx with rfl | rfl
    · exact .str _ (by decide +kernel)
    · exact h.up (by show _ ≤ t.dep + 1 + 10; omega)
  | .both t u, h => by
    have h1 := WT.sm t h.1
    have h2 := WT.sm u h.2
    refine .tup _ (by simp) fun x hx => ?_
    simp only [List.mem_cons, List.not_mem_nil, or_false] at hx
    rcases hx with rfl | rfl | rfl
    · exact .str _ (by decide +kernel)
    · exact h1.up (by show _ ≤ max t.dep u.dep + 1 + 10; omega)
    · exact h2.up (by show _ ≤ max t.dep u.dep + 1 + 10; omega)
  | .either t u, h => by
    have h1 := WT.sm t h.1
    have h2 := WT.sm u h.2
    refine .tup _ (by simp) fun x hx => ?_
    simp only [List.mem_cons, List.not_mem_nil, or_false] at hx
    rcases hx with rfl | rfl | rfl
    · exact .str _ (by decide +kernel)
    · exact h1.up (by show _ ≤ max t.dep u.dep + 1 + 10; omega)
    · exact h2.up (by show _ ≤ max t.dep u.dep + 1 + 10; omega)
theorem bd_ok {lo hi : Option Int} {b : Option Int} (h : ∀ z, b = some z → (∀ l, lo = some l → l ≤ z) ∧ ∀ h, hi = some h → z ≤ h) : boundB lo hi (bdD b) = true := by
  cases b with
  | none => rfl
  | some z =>
    have h1 := (h z rfl).1
    have h2 := (h z rfl).2
    clear h
    cases lo with
    | none => cases hi with
      | none => rfl
      | some b => show (true && decide (z ≤ b)) = true; rw [decide_eq_true (h2 b rfl)]; rfl
    | some a => cases hi with
      | none => show (decide (a ≤ z) && true) = true; rw [decide_eq_true (h1 a rfl)]; rfl
      | some b => show (decide (a ≤ z) && decide (z ≤ b)) = true; rw [decide_eq_true (h1 a rfl), decide_eq_true (h2 b rfl)]; rfl
theorem bd6 {b : Option Int} (h : InB 0 6 b) : boundB (some 0) (some 6) (bdD b) = true := bd_ok fun z e => ⟨fun l hl => by cases hl; exact (h z e).1, fun l hl => by cases hl; exact (h z e).2⟩
theorem bd0 {b : Option Int} (h : InB 0 6 b) : boundB (some 0) none (bdD b) = true := bd_ok fun z e => ⟨fun l hl => by cases hl; exact (h z e).1, fun l hl => (by cases hl)⟩
theorem bdn {b : Option Int} : boundB none none (bdD b) = true := bd_ok fun z e => ⟨fun l hl => (by cases hl), fun l hl => (by cases hl)⟩
theorem fr {lo hi z : Int} (h1 : lo ≤ z) (h2 : z ≤ hi) : fromB lo hi (.int z) = true := by
  show (decide (lo ≤ z) && decide (z ≤ hi)) = true
  rw [decide_eq_true h1, decide_eq_true h2]; rfl
theorem HT.good : ∀ (t : HT) (k : Nat), t.Ok → t.dep ≤ k → handB (k + 1) t.d = true
  | .at p, k, h, _ => by show handB (k + 1) (.tup [.str "at", .int p]) = true; rw [hB_at]; exact fr h.1 h.2
  | .num a lo hi, k, h, _ => by show handB (k + 1) (.tup [.str "number", .int a, bdD lo, bdD hi]) = true; rw [hB_num, fr h.1 (by have := h.2; omega), bdn, bdn]; rfl
  | .has a, k, h, _ => by show handB (k + 1) (.tup [.str "has", .int a]) = true; rw [hB_has]; exact fr h.1 (by have := h.2; omega)
  | .many a b, k, h, _ => by show handB (k + 1) (.tup [.str "many", .int a, .int b]) = true; rw [hB_many, fr h.1.1 (by have := h.1.2; omega), fr h.2.1 h.2.2]; rfl
  | .bell, k, _, _ => hB_bell
  | .fallen, k, _, _ => hB_fallen
  | .not t, k, h, hk => by
    have hk : t.dep + 1 ≤ k := hk
    obtain ⟨j, rfl⟩ : ∃ j, k = j + 1 := ⟨k - 1, by omega⟩
    show handB (j + 1 + 1) (.tup [.str "not", t.d]) = true
    rw [hB_not]; exact HT.good t j h (by omega)
  | .both t u, k, h, hk => by
    have hk : max t.dep u.dep + 1 ≤ k := hk
    obtain ⟨j, rfl⟩ : ∃ j, k = j + 1 := ⟨k - 1, by omega⟩
    show handB (j + 1 + 1) (.tup [.str "both", t.d, u.d]) = true
    rw [hB_both, HT.good t j h.1 (by omega), HT.good u j h.2 (by omega)]; rfl
  | .either t u, k, h, hk => by
    have hk : max t.dep u.dep + 1 ≤ k := hk
    obtain ⟨j, rfl⟩ : ∃ j, k = j + 1 := ⟨k - 1, by omega⟩
    show handB (j + 1 + 1) (.tup [.str "either", t.d, u.d]) = true
    rw [hB_either, HT.good t j h.1 (by omega), HT.good u j h.2 (by omega)]; rfl
theorem WT.good : ∀ (t : WT) (k : Nat), t.Ok → t.In n → t.dep ≤ k → testB n (k + 1) t.d = true
  | .count r t lo hi, k, h, hi2, _ => by
    show testB n (k + 1) (.tup [.str "count", .int r, t.d, bdD lo, bdD hi]) = true
    rw [tB_count, fr hi2.1 (by have := hi2.2; omega), HT.good t 36 h.1.1 (by have := h.1.2; omega), bd6 h.2.1, bd6 h.2.2]; rfl
  | .letters a lo hi, k, h, _, _ => by
    show testB n (k + 1) (.tup [.str "letters", .int a, bdD lo, bdD hi]) = true
    rw [tB_letters, fr h.1.1 h.1.2, bd0 h.2.1, bd0 h.2.2]; rfl
  | .not t, k, h, hi, hk => by
    have hk : t.dep + 1 ≤ k := hk
    obtain ⟨j, rfl⟩ : ∃ j, k = j + 1 := ⟨k - 1, by omega⟩
    show testB n (j + 1 + 1) (.tup [.str "not", t.d]) = true
    rw [tB_not]; exact WT.good t j h hi (by omega)
  | .both t u, k, h, hi, hk => by
    have hk : max t.dep u.dep + 1 ≤ k := hk
    obtain ⟨j, rfl⟩ : ∃ j, k = j + 1 := ⟨k - 1, by omega⟩
    show testB n (j + 1 + 1) (.tup [.str "both", t.d, u.d]) = true
    rw [tB_both, WT.good t j h.1 hi.1 (by omega), WT.good u j h.2 hi.2 (by omega)]; rfl
  | .either t u, k, h, hi, hk => by
    have hk : max t.dep u.dep + 1 ≤ k := hk
    obtain ⟨j, rfl⟩ : ∃ j, k = j + 1 := ⟨k - 1, by omega⟩
    show testB n (j + 1 + 1) (.tup [.str "either", t.d, u.d]) = true
    rw [tB_either, WT.good t j h.1 hi.1 (by omega), WT.good u j h.2 hi.2 (by omega)]; rfl
def notN : Nat → WT → WT
  | 0, t => t
  | n + 1, t => .not (notN n t)
theorem notN_dep : ∀ n t, (notN n t).dep = t.dep + n
  | 0, t => rfl
  | n + 1, t => by show (notN n t).dep + 1 = _; rw [notN_dep n t]; omega
theorem notN_ok : ∀ n t, t.Ok → (notN n t).Ok
  | 0, t, h => h
  | n + 1, t, h => notN_ok n t h
theorem notN_in : ∀ m t, t.In n → (notN m t).In n
  | 0, t, h => h
  | m + 1, t, h => notN_in m t h
theorem turned_wp {t : WT} {n : Nat} (hn : n < 1000) {S : Store} {Q : D → Store → Prop} {E : XP} (q : Q (notN n t).d S) : (f__law_turned [t.d, .int n] S).wp Q E := by
  refine run_wp ?_
  walk_at "vc"
  simp only [WT.box]
  unfold m__law_turned l__law_turned_1
  walk_at "nx"
  rw [if_pos (show In62 (n : Nat) from ⟨by omega, by omega⟩)]
  walk_at "vc"
  refine for_wp (fun i ρ U => S = U ∧ ∃ (x2 : Option D), ρ = [some (notN i t).d, some (.int n), x2]) ⟨rfl, none, rfl⟩ (fun _ _ _ _ => trivial) ?_ ?_
  · rintro i d ρ U hi ⟨rfl, x2, rfl⟩
    refine ⟨_, rfl, ?_⟩
    unfold b__law_turned_1
    walk_at "vc"
    simp only [WT.box]
    exact ⟨trivial, _, rfl⟩
  · rintro ρ U ⟨rfl, x2, rfl⟩
    rw [range_len, Int.toNat_natCast]
    walk_at "go"
    walk_at "vc"
    exact closeR_same q
end
/-- a claim drawn: its word, its tests -/
inductive Clm : Type
  | never (t : WT)
  | behind (t u : WT)
  | comes (t u : WT)
def Clm.d : Clm → D
  | .never t => .tup [.str "never", t.d]
  | .behind t u => .tup [.str "behind", t.d, u.d]
  | .comes t u => .tup [.str "comes", t.d, u.d]
def WGood (n : Nat) (t : WT) : Prop := t.Ok ∧ t.In n ∧ t.dep ≤ 1
def Clm.Ok (n : Nat) : Clm → Prop
  | .never t => WGood n t
  | .behind t u => WGood n t ∧ WGood n u
  | .comes t u => WGood n t ∧ WGood n u
end Ev.K45
namespace Ev.K45
open PySem PySem.Spec PyProof.Rows L2 Ev
/-! the law -/
/-- its first test, and the same claim of another first test -/
def Clm.t : Clm → WT
  | .never t => t
  | .behind t _ => t
  | .comes t _ => t
def Clm.w : Clm → Str
  | .never _ => "never"
  | .behind _ _ => "behind"
  | .comes _ _ => "comes"
def Clm.us : Clm → List D
  | .never _ => []
  | .behind _ u => [u.d]
  | .comes _ u => [u.d]
theorem Clm.eq : ∀ c : Clm, c.d = .tup (.str c.w :: c.t.d :: c.us)
  | .never t => rfl
  | .behind t u => rfl
  | .comes t u => rfl
section
variable {S : Store} {Q : D → Store → Prop} {E : XP} {k : Nat} {d : D} {n : Nat}
theorem draws_wp {S : Store} {c b n : Int} {Q : D → Store → Prop} {E : XP} (hb0 : 0 < b) (hb1 : b < 2147483399) (hn0 : 0 ≤ n) (hn : n ≤ 50000)
    (q : ∀ ns : List Int, (ns.length : Int) = n → (∀ z ∈ ns, 0 ≤ z ∧ z < 2147483399) → Q (.lst (ns.map .int)) S) : (f__law_draws [.int c, .int n, .int b] S).wp Q E := by
  obtain ⟨m, rfl⟩ := Int.eq_ofNat_of_zero_le hn0
  obtain ⟨ns, h1, h2, e⟩ := draws_ok (S := S) c hb0 hb1 (n := m) (by omega)
  exact wp_eq e (q ns (by rw [h1]) h2)
theorem Clm.sm : ∀ c : Clm, c.Ok n → Sm 13 c.d
  | .never t, h => by
    refine .tup _ (by simp) fun x hx => ?_
    simp only [List.mem_cons, List.not_mem_nil, or_false] at hx
    rcases hx with rfl | rfl
    · exact .str _ (by decide +kernel)
    · exact (t.sm h.1).up (by have := h.2.2; omega)
  | .behind t u, h => by
    refine .tup _ (by simp) fun x hx => ?_
    simp only [List.mem_cons, List.not_mem_nil, or_false] at hx
    rcases hx with rfl | rfl | rfl
    · exact .str _ (by decide +kernel)
    · exact (t.sm h.1.1).up (by have := h.1.2.2; omega)
    · exact (u.sm h.2.1).up (by have := h.2.2.2; omega)
  | .comes t u, h => by
    refine .tup _ (by simp) fun x hx => ?_
    simp only [List.mem_cons, List.not_mem_nil, or_false] at hx
    rcases hx with rfl | rfl | rfl
    · exact .str _ (by decide +kernel)
    · exact (t.sm h.1.1).up (by have := h.1.2.2; omega)
    · exact (u.sm h.2.1).up (by have := h.2.2.2; omega)
theorem WGood.test {t : WT} (h : WGood n t) : testB n 37 t.d = true := t.good 36 h.1 h.2.1 (by have := h.2.2; omega)
theorem Clm.good : ∀ c : Clm, c.Ok n → claimB n c.d = true
  | .never t, h => by show claimB n (.tup [.str "never", t.d]) = true; rw [cB_never]; exact h.test
  | .behind t u, h => by show claimB n (.tup [.str "behind", t.d, u.d]) = true; rw [cB_behind, h.1.test, h.2.test]; rfl
  | .comes t u, h => by show claimB n (.tup [.str "comes", t.d, u.d]) = true; rw [cB_comes, h.1.test, h.2.test]; rfl
theorem Clm.usl : ∀ c : Clm, c.us.length ≤ 1
  | .never t => Nat.zero_le _
  | .behind t u => Nat.le_refl 1
  | .comes t u => Nat.le_refl 1
theorem Clm.wok : ∀ c : Clm, PyData.strOk c.w = true
  | .never t => (by decide +kernel : PyData.strOk "never" = true)
  | .behind t u => (by decide +kernel : PyData.strOk "behind" = true)
  | .comes t u => (by decide +kernel : PyData.strOk "comes" = true)
theorem Clm.tok {c : Clm} (h : c.Ok n) : WGood n c.t := by
  cases c with
  | never t => exact h
  | behind t u => exact h.1
  | comes t u => exact h.1
theorem Clm.good2 {c : Clm} (h : c.Ok n) {x : D} (hx : testB n 37 x = true) : claimB n (.tup (.str c.w :: x :: c.us)) = true := by
  cases c with
  | never t => exact cB_never.trans hx
  | behind t u => exact cB_behind.trans (by rw [hx, h.2.test]; rfl)
  | comes t u => exact cB_comes.trans (by rw [hx, h.2.test]; rfl)
theorem Clm.box {c : Clm} {U : Store} : Ev.box c.d U = (c.d, U) := by rw [c.eq]; rfl
theorem claim_wp {z : Int} (hn : 0 < n) (q : ∀ c : Clm, c.Ok n → Q c.d S) : (f__law_claim [.int z, .int n] S).wp Q E := by
  refine run_wp ?_
  walk_at "vc"
  unfold m__law_claim
  walk_at "nx"
  walk_at "nm"
  rw [if_pos (by decide), show (10 : Int) ^ Int.toNat 6 = 1000000 from rfl]
  walk_at "vc"
  refine draws_wp (by decide) (by decide) (by decide) (by decide) fun xs hxl hxz => ?_
  walk_at "vc"
  walk_at "go"
  walk_at "nx"
  walk_at "nm"
  have k0 := Int.emod_nonneg z (b := 3) (by decide)
  have k1 := Int.emod_lt_of_pos z (b := 3) (by decide)
  have two : ∀ {w : Str} {f : WT → WT → Clm}, (∀ t u, (f t u).d = .tup [.str w, t.d, u.d]) → (∀ t u, WGood n t → WGood n u → (f t u).Ok n) →
      ((sRet (mTup (mCons (mVar 3) (mCons (mCall 3 (f__law_test 37) (mCons (mVar 2) (mCons (mVar 1) (mCons (mLit (.int 1)) mNil)))) (mCons (mCall 3 (f__law_test 37) (mCons (mVar 2) (mCons (mVar 1) (mCons (mLit (.int 1)) mNil)))) mNil))))) [some (.int z), some (.int n), some (.ref S.length), some (.str w)] (S ++ [.lst (xs.map .int)])).wp (fun _ S2 => Q .non (closeD S .non S2).2) (closeR S Q) (fun _ _ => False) (fun _ _ => False) (fun c ks es S2 => E c ks es (closeL S es S2)) := fun {w f} hf hok => by
    walk_at "vc"
    rw [show (1 : Int) = ((1 : Nat) : Int) from rfl]
    refine wgen_wp hn 1 37 (by decide) (by rw [getT0]; rfl) (by show 17 ≤ _; omega) hxz fun t ys t1 t2 t3 t4 t5 => ?_
    have t4 : xs.length ≤ ys.length + 17 := t4
    walk_at "vc"
    refine wgen_wp hn 1 37 (by decide) (by rw [getT0]; rfl) (by show 17 ≤ _; omega) t5 fun u zs u1 u2 u3 u4 u5 => ?_
    walk_at "vc"
    simp only [WT.box]
    rw [← hf]
    exact closeR_app (by rw [hf]; simp [WT.lo]) (q _ (hok t u ⟨t1, t2, t3⟩ ⟨u1, u2, u3⟩))
  have hc : z % 3 = 0 ∨ z % 3 = 1 ∨ z % 3 = 2 := by omega
  rcases hc with e | e | e <;> rw [e, idx_lst (by decide) rfl]
  · walk_at "vc"
    walk_at "go"
    walk_at "nx"
    walk_at "sq"
    walk_at "vc"
    rw [show (1 : Int) = ((1 : Nat) : Int) from rfl]
    refine wgen_wp hn 1 37 (by decide) (by rw [getT0]; rfl) (by show 17 ≤ _; omega) hxz fun t ys t1 t2 t3 t4 t5 => ?_
    walk_at "vc"
    simp only [WT.box]
    exact closeR_app (d := (Clm.never t).d) (by show D.lo _ (.tup [.str "never", t.d]) = true; simp [WT.lo]) (q (.never t) ⟨t1, t2, t3⟩)
  · walk_at "vc"
    walk_at "go"
    walk_at "if0"
    exact two (f := .behind) (fun _ _ => rfl) fun _ _ a b => ⟨a, b⟩
  · walk_at "vc"
    walk_at "go"
    walk_at "if0"
    exact two (f := .comes) (fun _ _ => rfl) fun _ _ a b => ⟨a, b⟩
end
end Ev.K45
namespace Ev.K45
open PySem PySem.Spec PyProof.Rows L2 Ev
section
variable {S : Store} {Q : D → Store → Prop} {E : XP} {k : Nat} {d : D} {n : Nat}
theorem closeD_bl {S U : Store} {b : Bool} : (closeD S (.bl b) U).1 = .bl b := by
  unfold closeD
  split
  · rw [if_pos (show D.lo S.length (.bl b) = true from rfl)]
  · rfl
theorem goodT_wp {T : List TabK} {body : MS} {n : Nat} (h : ∀ ns : List Int, ns.length ≤ 63 → (∀ z ∈ ns, Builtin.Int.intBits z ≤ 1048576) → (body (some (.fro (ns.map D.int)) :: List.replicate (n - 1) none) (T.map TabK.cell)).wp (fun _ _ => False) (fun d _ => d = .bl true) (fun _ _ => False) (fun _ _ => False) noXP) : GoodT T (runBody body n) := fun ns h1 h2 => by
  have z := h ns h1 h2
  unfold runBody
  show ∃ S, (match body (some (.fro (ns.map D.int)) :: List.replicate (n - 1) none) (T.map TabK.cell) with
    | .next ρ S2 => Out.ok D.non (closeD (T.map TabK.cell) .non S2).2
    | .ret d S2 => Out.ok (closeD (T.map TabK.cell) d S2).1 (closeD (T.map TabK.cell) d S2).2
    | .exc c ks es ρ S2 => Out.exc c ks es (closeL (T.map TabK.cell) es S2)
    | _ => Out.fail) = _
  cases q : body (some (.fro (ns.map D.int)) :: List.replicate (n - 1) none) (T.map TabK.cell) with
  | ret d S2 =>
    rw [q] at z
    cases (show d = .bl true from z)
    dsimp only
    rw [closeD_bl]
    exact ⟨_, rfl⟩
  | next _ _ => rw [q] at z; exact z.elim
  | brk _ _ => rw [q] at z; exact z.elim
  | cont _ _ => rw [q] at z; exact z.elim
  | exc _ _ _ _ _ => rw [q] at z; exact z.elim
  | fail => rw [q] at z; exact z.elim
theorem prog_mul {m : Nat} (h1 : 1 ≤ m) (h2 : m ≤ 3) : binD .Mult (.tup [.tup []]) (.int m) S = some (.tup (List.replicate m (.tup []))) := by
  show mulD (.tup [.tup []]) (.int m) S = _
  unfold mulD
  dsimp only
  have : m = 1 ∨ m = 2 ∨ m = 3 := by omega
  rcases this with rfl | rfl | rfl
  · rfl
  · rw [if_neg (by decide), if_pos ⟨by simp, by decide, by decide, by decide⟩]; rfl
  · rw [if_neg (by decide), if_pos ⟨by simp, by decide, by decide, by decide⟩]; rfl
theorem raw_rd {U : Store} {e : D} (h : Raw U k e) : ∃ T, (box e U).2 = U ++ T ∧ Rd (U ++ T) k (box e U).1 := by
  rcases h with ⟨h, _⟩ | ⟨ds, j, rfl, rfl, h⟩
  · rw [h.box]; exact ⟨[], by simp, by rw [List.append_nil]; exact h⟩
  · exact ⟨[.lst ds], rfl, .ref _ ds (by rw [getT0]; rfl) h⟩
theorem cut2 {x y : D} {us : List D} {U : Store} : cutD (.tup (x :: y :: us)) (some 2) none U = some (.tup us) := by
  rw [cut_tupD]
  have := cutL_from (xs := x :: y :: us) (k := 2) (by simp)
  rw [show (some (2 : Int)) = some ((2 : Nat) : Int) from rfl, this]; rfl
theorem good : GoodT tabs f_law := by
  refine goodT_wp fun ns hl hz => ?_
  show (m_law [some (.fro (ns.map .int)), none, none, none, none, none, none] _).wp _ _ _ _ _
  have ht0 : Tabs2 (tabs.map TabK.cell) := ⟨⟨0, rfl⟩, ⟨1, rfl⟩⟩
  generalize tabs.map TabK.cell = S0 at ht0
  unfold m_law
  walk_at "nx"
  refine cell_wp (by decide) fun z0 => ?_
  walk_at "vc"
  walk_at "nm"
  have a0 := Int.emod_nonneg z0 (b := 3) (by decide)
  have a1 := Int.emod_lt_of_pos z0 (b := 3) (by decide)
  obtain ⟨n, hn⟩ : ∃ n : Nat, 1 + z0 % 3 = (n : Int) := ⟨(1 + z0 % 3).toNat, by omega⟩
  rw [hn]
  have n1 : 1 ≤ n := by omega
  have n3 : n ≤ 3 := by omega
  walk_at "go"
  walk_at "nx"
  rw [prog_mul n1 n3]
  walk_at "vc"
  rw [show D.tup [.int 1, .tup [.int 0, .int 0], .tup (List.replicate n (.tup [])), .tup [.int 0]] = progD n from rfl]
  walk_at "go"
  have hp : ∀ U, box (progD n) U = (progD n, U) := fun _ => rfl
  unfold l_law_1
  walk_at "nx"
  rw [blt_lenA (d := .fro (ns.map .int)) rfl (fun _ h => nomatch h), List.length_map]
  walk_at "vc"
  rw [blt_min2]
  walk_at "vc"
  rw [blt_max2]
  walk_at "vc"
  rw [if_pos (rgc_of (by decide) (by decide) (by decide) (by decide) (by split <;> split <;> omega) (by split <;> split <;> omega))]
  walk_at "vc"
  refine for_wp (fun i ρ U => ∃ (T : Store) (x3 x4 x5 x6 : Option D), U = S0 ++ T ∧ ρ = [some (.fro (ns.map .int)), some (.int n), some (progD n), x3, x4, x5, x6])
    ⟨[], none, none, none, none, by simp, rfl⟩ (fun _ _ _ _ => trivial) ?_ ?_
  · rintro i d ρ U hi ⟨T, x3, x4, x5, x6, eU, rfl⟩
    obtain ⟨rfl, hlt⟩ := rangeC_at hi
    have hk : (0 : Int) ≤ 1 + (i : Int) * 2 := by omega
    generalize (1 : Int) + (i : Int) * 2 = k at hk
    refine ⟨_, rfl, ?_⟩
    have htU : Tabs2 U := eU ▸ ht0.app
    unfold b_law_1
    walk_at "nx"
    refine cell_wp hk fun z1 => ?_
    walk_at "vc"
    refine claim_wp (by omega) fun c hc => ?_
    simp only [Clm.box]
    walk_at "go"
    have cs := c.sm hc
    walk_at "nx"
    refine look_wp (n := n) htU (cs.pl U) (by decide) (fun _ => ?_) fun h => absurd ((c.good hc).symm.trans h) (by decide)
    walk_at "vc"
    walk_at "go"
    walk_at "nx"
    refine cell_wp (by omega) fun z2 => ?_
    walk_at "vc"
    walk_at "go"
    walk_at "nx"
    rw [c.eq]
    walk_at "vc"
    walk_at "nm"
    have m0 := Int.emod_nonneg z2 (b := 23) (by decide)
    have m1 := Int.emod_lt_of_pos z2 (b := 23) (by decide)
    obtain ⟨m, hm⟩ := Int.eq_ofNat_of_zero_le m0
    rw [hm] at m1 ⊢
    walk_at "vc"
    refine turned_wp (by omega) ?_
    walk_at "vc"
    simp only [WT.box]
    rw [cut2]
    walk_at "vc"
    rw [add_tup (sz_le (by have := c.usl; simp; omega))]
    walk_at "vc"
    have gt : claimB n (.tup (.str c.w :: (notN m c.t).d :: c.us)) = true := Clm.good2 hc (WT.good (notN m c.t) 36 (notN_ok m _ (Clm.tok hc).1) (notN_in m _ (Clm.tok hc).2.1) (by rw [notN_dep]; have := (Clm.tok hc).2.2; omega))
    have cp : ∀ x ∈ c.us, Pl 12 x := fun x hx => by
      have := cs
      rw [c.eq] at this
      obtain ⟨j, e, _, h⟩ := this.len
      cases e
      exact (h x (by simp [hx])).pl
    have rt : Rd U 37 (.tup (.str c.w :: (notN m c.t).d :: c.us)) := by
      refine .tup _ (by have := c.usl; simp; omega) fun x hx => ?_
      simp only [List.mem_cons] at hx
      rcases hx with rfl | rfl | hx
      · exact .str _ c.wok
      · exact (((notN m c.t).sm (notN_ok m _ (Clm.tok hc).1)).pl U).up (by rw [notN_dep]; have := (Clm.tok hc).2.2; omega)
      · exact (cp x hx U).up (by decide)
    refine look_wp (n := n) htU rt (by decide) (fun _ => ?_) fun h => absurd (gt.symm.trans h) (by decide)
    walk_at "vc"
    walk_at "go"
    have ct : Pl 12 c.t.d := (c.t.sm (Clm.tok hc).1).pl.up (by have := (Clm.tok hc).2.2; omega)
    have ceq := c.eq
    walk_at "nx"
    walk_at "nm"
    have e0 := Int.emod_nonneg (z2 / 2) (b := 8) (by decide)
    have e1 := Int.emod_lt_of_pos (z2 / 2) (b := 8) (by decide)
    have bt : ∀ V, box c.t.d V = (c.t.d, V) := fun V => WT.box
    simp only [bt]
    rw [if_pos (show (0 : Int) < 8 by decide)]
    walk_at "vc"
    have key : ∀ (e : D) (T1 : Store), Rd (U ++ T1) 15 e → N [some (.fro (ns.map .int)), some (.int n), some (progD n), some (.int k), some (.tup (.str c.w :: c.t.d :: c.us)), some (.int z2), some e] (U ++ T1) := by
      intro e T1 he
      walk_at "go"
      refine sw_seq fun N2 hN2 => ?_
      have fin : ∀ (e : D) (j : Nat) (T2 : Store), Rd (U ++ T2) j e → j ≤ 37 → N2 [some (.fro (ns.map .int)), some (.int n), some (progD n), some (.int k), some (.tup (.str c.w :: c.t.d :: c.us)), some (.int z2), some e] (U ++ T2) := by
        intro e j T2 he hj
        refine hN2 _ _ ?_
        clear hN2
        have ht2 : Tabs2 (U ++ T2) := htU.app
        have same : ∃ T', U ++ T2 = S0 ++ T' := ⟨T ++ T2, by rw [eU, List.append_assoc]⟩
        obtain ⟨T', eT⟩ := same
        walk_at "vc"
        rw [lclaim_eq hj he]
        walk_at "vc"
        by_cases hcl : claimB n e = true
        · rw [hcl]
          walk_at "vc"
          refine look_wp (n := n) ht2 he hj (fun _ => ?_) fun h => absurd (hcl.symm.trans h) (by decide)
          walk_at "vc"
          exact ⟨T', _, _, _, _, eT, rfl⟩
        · rw [Bool.not_eq_true] at hcl
          rw [hcl]
          walk_at "vc"
          refine refused_wp ht2 he hj hcl ?_
          walk_at "vc"
          refine refused_wp ht2 he hj hcl ?_
          walk_at "vc"
          exact ⟨T', _, _, _, _, eT, rfl⟩
      walk_at "vc"
      walk_at "nm"
      by_cases h2 : z2 % 2 = 1
      · rw [decide_eq_true h2]
        walk_at "vc"
        walk_at "nm"
        rw [if_pos (by decide), show (10 : Int) ^ Int.toNat 6 = 1000000 from rfl]
        walk_at "vc"
        refine draws_wp (by decide) (by decide) (by decide) (by decide) fun xs hxl hxz => ?_
        walk_at "vc"
        rw [← ceq]
        refine spoil_new (k := 13) (by omega) (by decide) cs fun e2 T3 h3 => ?_
        rw [List.append_assoc] at h3 ⊢
        obtain ⟨T4, h4, h5⟩ := raw_rd h3
        rw [List.append_assoc] at h4 h5
        walk_at "vc"
        rw [h4, ceq]
        exact fin _ 14 _ h5 (by decide)
      · rw [decide_eq_false h2]
        walk_at "vc"
        exact fin e 15 T1 he (by decide)
    have pst : ∀ x : Str, PyData.strOk x = true → Pl 12 (.str x) := fun x hx _ => .str _ hx
    have r12 : ∀ {T1 : Store} {e : D}, Pl 12 e → Rd (U ++ T1) 15 e := fun h => (h _).up (by decide)
    have getT0' : ∀ {a b : List D}, (U ++ [Cell.lst a, .lst b])[U.length]? = some (.lst a) := by intro a b; simp
    have ev : z2 / 2 % 8 = 0 ∨ z2 / 2 % 8 = 1 ∨ z2 / 2 % 8 = 2 ∨ z2 / 2 % 8 = 3 ∨ z2 / 2 % 8 = 4 ∨ z2 / 2 % 8 = 5 ∨ z2 / 2 % 8 = 6 ∨ z2 / 2 % 8 = 7 := by omega
    rcases ev with e | e | e | e | e | e | e | e <;> rw [e, idx_lst (by decide) rfl] <;> walk_at "vc"
    · exact key _ _ (.non)
    · exact key _ _ (.int 7)
    · exact key _ _ (r12 (pst _ (by decide +kernel)))
    · exact key _ _ (.ref (k := 14) _ [] (by rw [List.getElem?_append_right (Nat.le_refl _), Nat.sub_self]; rfl) fun _ h => nomatch h)
    · exact key _ _ (.tup (k := 14) [] (by decide) fun _ h => nomatch h)
    · refine key _ _ (.ref (k := 14) _ [_, _] (by rw [List.getElem?_append_right (by omega), Nat.add_sub_cancel_left]; rfl) fun x hx => ?_)
      simp only [List.mem_cons, List.not_mem_nil, or_false] at hx
      intro V
      rcases hx with rfl | rfl
      · exact (pst _ (by decide +kernel) V).up (by decide)
      · exact (ct V).up (by decide)
    · refine key _ _ (.tup (k := 14) [_] (show 1 ≤ 1000 by decide) fun x hx => ?_)
      simp only [List.mem_cons, List.not_mem_nil, or_false] at hx
      subst hx
      rw [← ceq]
      exact (cs.pl _).up (by decide)
    · rw [bt]; exact key _ _ (r12 ct)
  · rintro ρ S ⟨T, x3, x4, x5, x6, rfl, rfl⟩
    walk_at "go"
    walk_at "vc"
end
end Ev.K45
end
set_option maxHeartbeats 2000000
namespace Ev.K45
open PySem PySem.Spec PyProof.Rows L2 Ev
structure Txt (K : PySem.W.Frag) (w : World) (mg : Str → Option Value) : Prop where
  z : True
  b_bool : mg "bool" = none
  b_int : mg "int" = none
  b_isinstance : mg "isinstance" = none
  b_len : mg "len" = none
  b_list : mg "list" = none
  b_max : mg "max" = none
  b_min : mg "min" = none
  b_range : mg "range" = none
  b_sorted : mg "sorted" = none
  b_str : mg "str" = none
  b_tuple : mg "tuple" = none
  e_NoClaim : ExcT K mg "NoClaim"
  h_LetterError : HdT K mg "LetterError" x_LetterError
  i_CantKnow : IsT K mg "CantKnow" is_CantKnow
  i_NoClaim : IsT K mg "NoClaim" is_NoClaim
  i_NoLine : IsT K mg "NoLine" is_NoLine
  i_NoMove : IsT K mg "NoMove" is_NoMove
  i_NoProgram : IsT K mg "NoProgram" is_NoProgram
  i_NoRenaming : IsT K mg "NoRenaming" is_NoRenaming
  i_NoStep : IsT K mg "NoStep" is_NoStep
  i_NoTalk : IsT K mg "NoTalk" is_NoTalk
  i_NoText : IsT K mg "NoText" is_NoText
  i_ValueError : IsT K mg "ValueError" is_ValueError

def n__law_cell_at : List Str := ["_law_script", "_law_k"]
def n__law_mixed : List Str := ["_law_cell", "_law_k", "_law_number"]
def n__law_draws : List Str := ["_law_cell", "_law_amount", "_law_base", "_law_drawn", "_law_rest", "_law_k", "_law_number"]
def n__law_bounds : List Str := ["_law_draw", "_law_low", "_law_high", "_law_bounds_here"]
def n__law_hand_test : List Str := ["_law_draws_here", "_law_deep", "_law_draw", "_law_word", "_law_low", "_law_high", "_law_far", "_law_some"]
def n__law_test : List Str := ["_law_draws_here", "_law_roles", "_law_deep", "_law_draw", "_law_word", "_law_low", "_law_high"]
def n__law_claim : List Str := ["_law_cell", "_law_roles", "_law_draws_here", "_law_word"]
def n_is_told : List Str := ["thing", "word", "many"]
def n_is_whole : List Str := ["thing"]
def n_is_from : List Str := ["thing", "low", "high"]
def n_is_bound : List Str := ["thing", "low", "high"]
def n_is_box_test : List Str := ["thing"]
def n_is_joined : List Str := ["thing", "is_one"]
def n_is_hand_test : List Str := ["thing"]
def n_is_hand_test_lam0 : List Str := ["one"]
def n_is_test : List Str := ["thing", "roles"]
def n_is_test_lam0 : List Str := ["one", "roles"]
def n_look_over_claim : List Str := ["program", "claim", "roles", "good"]
def n__law_turned : List Str := ["_law_test_here", "_law_times", "_law_k"]
def n__law_odd : List Str := ["_law_thing", "_law_draw", "_law_some"]
def n__law_spoiled : List Str := ["_law_thing", "_law_draws_here", "_law_deep", "_law_draw", "_law_at"]
def n__law_form : List Str := ["_law_thing", "_law_words"]
def n__law_whole : List Str := ["_law_thing", "_law_low", "_law_high"]
def n__law_bound : List Str := ["_law_thing", "_law_low", "_law_high"]
def n__law_hand : List Str := ["_law_thing", "_law_words", "_law_one"]
def n__law_is_test : List Str := ["_law_thing", "_law_roles", "_law_good", "_law_one"]
def n__law_is_claim : List Str := ["_law_thing", "_law_roles", "_law_one"]
def n__law_refused : List Str := ["_law_program", "_law_thing", "_law_right", "e", "_law_kinds"]
def n_law : List Str := ["_law_script", "_law_roles", "_law_program", "_law_k", "_law_claim_here", "_law_cell", "_law_odd_here"]
section
variable {P : Program} {w : World} {K : PySem.W.Frag} {mg : Str → Option Value} {base : Heap}
theorem s__law_cell_at : FnScope n__law_cell_at ["_law_script", "_law_k"] (defScope st__law_cell_at) := ⟨rfl, rfl, rfl, by decide +kernel, rfl, by decide +kernel, by decide +kernel⟩
theorem ok__law_cell_at {qual : Str} {f : Addr} {fd : FuncData} (F : Fun K "_law_cell_at" qual st__law_cell_at f fd) (T : Txt K w mg)  : FnG P w K mg base (L2N.CX P w) 1 f fd ["_law_script", "_law_k"] (spOf K mg 2 f__law_cell_at) := by
  refine fn_ok (k := 0) F s__law_cell_at fun cdv A outer s H E hr => ?_
  have hu := hr.units
  have sN := s__law_cell_at.nd
  have tk : L2N.Takes (cxOf (L2N.CX P w) P w K mg base n__law_cell_at qual (defScope st__law_cell_at) f cdv A outer s H E) (fun cls dx _ H => E cls dx H) := L2N.takes_of rfl rfl rfl rfl
  have pw : PassesOwn (model P w) (A.deeper (envOfC qual (defScope st__law_cell_at) s.heap.objs.size f cdv)) (cxOf (L2N.CX P w) P w K mg base n__law_cell_at qual (defScope st__law_cell_at) f cdv A outer s H E).env (cxOf (L2N.CX P w) P w K mg base n__law_cell_at qual (defScope st__law_cell_at) f cdv A outer s H E).xe := passes_of rfl
  exact (evs_cons (evs_if (evt_cmp hu (ev_var (i := 1) rfl (vis_of rfl) rfl rfl) (ev_blt rfl T.b_len (blt_boot .len) (blt_kind .len) (blt_ok rfl .len) (eva_cons (ev_var (i := 0) rfl (vis_of rfl) rfl rfl) eva_nil rfl) rfl (blt_name .len).1 (blt_name .len).2) rfl)
  (evs_one (evs_ret (ev_idx (ev_var (i := 0) rfl (vis_of rfl) rfl rfl) (ev_var (i := 1) rfl (vis_of rfl) rfl rfl) rfl)))
  evs_nil)
  (evs_one (evs_ret ev_int)))
theorem s__law_mixed : FnScope n__law_mixed ["_law_cell", "_law_k"] (defScope st__law_mixed) := ⟨rfl, rfl, rfl, by decide +kernel, rfl, by decide +kernel, by decide +kernel⟩
theorem ok__law_mixed {qual : Str} {f : Addr} {fd : FuncData} (F : Fun K "_law_mixed" qual st__law_mixed f fd) (T : Txt K w mg)  : FnG P w K mg base (L2N.CX P w) 1 f fd ["_law_cell", "_law_k"] (spOf K mg 2 f__law_mixed) := by
  refine fn_ok (k := 0) F s__law_mixed fun cdv A outer s H E hr => ?_
  have hu := hr.units
  have sN := s__law_mixed.nd
  have tk : L2N.Takes (cxOf (L2N.CX P w) P w K mg base n__law_mixed qual (defScope st__law_mixed) f cdv A outer s H E) (fun cls dx _ H => E cls dx H) := L2N.takes_of rfl rfl rfl rfl
  have pw : PassesOwn (model P w) (A.deeper (envOfC qual (defScope st__law_mixed) s.heap.objs.size f cdv)) (cxOf (L2N.CX P w) P w K mg base n__law_mixed qual (defScope st__law_mixed) f cdv A outer s H E).env (cxOf (L2N.CX P w) P w K mg base n__law_mixed qual (defScope st__law_mixed) f cdv A outer s H E).xe := passes_of rfl
  exact (evs_cons (evs_set (i := 2) sN rfl (loc_of rfl) (.inl rfl) (ev_bin (ev_bin (ev_bin (ev_bin (ev_bin (ev_var (i := 0) rfl (vis_of rfl) rfl rfl) ev_int) (ev_bin ev_int (ev_var (i := 1) rfl (vis_of rfl) rfl rfl))) ev_int) ev_int) ev_int) rfl)
  (evs_one (evs_ret (ev_bin (ev_bin (ev_var (i := 2) rfl (vis_of rfl) rfl rfl) (ev_bin (ev_bin (ev_var (i := 2) rfl (vis_of rfl) rfl rfl) ev_int) ev_int)) ev_int))))
theorem s__law_draws : FnScope n__law_draws ["_law_cell", "_law_amount", "_law_base"] (defScope st__law_draws) := ⟨rfl, rfl, rfl, by decide +kernel, rfl, by decide +kernel, by decide +kernel⟩
theorem ok__law_draws {qual : Str} {f : Addr} {fd : FuncData} (F : Fun K "_law_draws" qual st__law_draws f fd) (T : Txt K w mg) (c__law_mixed : Cal P w K mg base "_law_mixed" 2 f__law_mixed 1) : FnG P w K mg base (L2N.CX P w) 2 f fd ["_law_cell", "_law_amount", "_law_base"] (spOf K mg 3 f__law_draws) := by
  refine fn_ok (k := 1) F s__law_draws fun cdv A outer s H E hr => ?_
  have hu := hr.units
  have sN := s__law_draws.nd
  have tk : L2N.Takes (cxOf (L2N.CX P w) P w K mg base n__law_draws qual (defScope st__law_draws) f cdv A outer s H E) (fun cls dx _ H => E cls dx H) := L2N.takes_of rfl rfl rfl rfl
  have pw : PassesOwn (model P w) (A.deeper (envOfC qual (defScope st__law_draws) s.heap.objs.size f cdv)) (cxOf (L2N.CX P w) P w K mg base n__law_draws qual (defScope st__law_draws) f cdv A outer s H E).env (cxOf (L2N.CX P w) P w K mg base n__law_draws qual (defScope st__law_draws) f cdv A outer s H E).xe := passes_of rfl
  exact (evs_cons (evs_set (i := 3) sN rfl (loc_of rfl) (.inl rfl) (ev_lst eva_nil) rfl)
  (evs_cons (evs_set (i := 4) sN rfl (loc_of rfl) (.inl rfl) (ev_bin (ev_var (i := 0) rfl (vis_of rfl) rfl rfl) ev_int) rfl)
  (evs_cons (evs_for pw rfl (evi_range1 rfl T.b_range (ev_var (i := 1) rfl (vis_of rfl) rfl rfl) rfl) (evg_name (i := 5) sN rfl (loc_of rfl) (.inl rfl))
  (evs_one (evs_if (EvTs.t (evts_and (evt_cmp hu (ev_bin (ev_var (i := 0) rfl (vis_of rfl) rfl rfl) ev_int) ev_int rfl) (evts_and (evt_cmp hu (ev_var (i := 4) rfl (vis_of rfl) rfl rfl) ev_int rfl) evts_and_nil)))
  (evs_cons (evs_expr (ev_app (ev_var (i := 3) rfl (vis_of rfl) rfl rfl) (ev_bin (ev_var (i := 4) rfl (vis_of rfl) rfl rfl) (ev_var (i := 2) rfl (vis_of rfl) rfl rfl)) rfl rfl rfl) rfl)
  (evs_one (evs_set (i := 4) sN rfl (loc_of rfl) (.inl rfl) (ev_bin (ev_var (i := 4) rfl (vis_of rfl) rfl rfl) (ev_var (i := 2) rfl (vis_of rfl) rfl rfl)) rfl)))
  (evs_cons (evs_set (i := 6) sN rfl (loc_of rfl) (.inl rfl) (ev_call tk rfl (c__law_mixed.ok (hr.mono (by decide))) (eva_cons (ev_var (i := 0) rfl (vis_of rfl) rfl rfl) (eva_cons (ev_var (i := 5) rfl (vis_of rfl) rfl rfl) eva_nil rfl) rfl) rfl rfl) rfl)
  (evs_one (evs_expr (ev_app (ev_var (i := 3) rfl (vis_of rfl) rfl rfl) (ev_bin (ev_bin (ev_var (i := 6) rfl (vis_of rfl) rfl rfl) (ev_bin (ev_bin (ev_var (i := 6) rfl (vis_of rfl) rfl rfl) ev_int) ev_int)) ev_int) rfl rfl rfl) rfl))))) rfl)
  (evs_one (evs_ret (ev_var (i := 3) rfl (vis_of rfl) rfl rfl))))))
theorem s__law_bounds : FnScope n__law_bounds ["_law_draw", "_law_low", "_law_high"] (defScope st__law_bounds) := ⟨rfl, rfl, rfl, by decide +kernel, rfl, by decide +kernel, by decide +kernel⟩
theorem ok__law_bounds {qual : Str} {f : Addr} {fd : FuncData} (F : Fun K "_law_bounds" qual st__law_bounds f fd) (T : Txt K w mg)  : FnG P w K mg base (L2N.CX P w) 1 f fd ["_law_draw", "_law_low", "_law_high"] (spOf K mg 3 f__law_bounds) := by
  refine fn_ok (k := 0) F s__law_bounds fun cdv A outer s H E hr => ?_
  have hu := hr.units
  have sN := s__law_bounds.nd
  have tk : L2N.Takes (cxOf (L2N.CX P w) P w K mg base n__law_bounds qual (defScope st__law_bounds) f cdv A outer s H E) (fun cls dx _ H => E cls dx H) := L2N.takes_of rfl rfl rfl rfl
  have pw : PassesOwn (model P w) (A.deeper (envOfC qual (defScope st__law_bounds) s.heap.objs.size f cdv)) (cxOf (L2N.CX P w) P w K mg base n__law_bounds qual (defScope st__law_bounds) f cdv A outer s H E).env (cxOf (L2N.CX P w) P w K mg base n__law_bounds qual (defScope st__law_bounds) f cdv A outer s H E).xe := passes_of rfl
  exact (evs_cons (evs_set (i := 3) sN rfl (loc_of rfl) (.inl rfl) (ev_blt rfl T.b_sorted (blt_boot .sorted) (blt_kind .sorted) (blt_ok rfl .sorted) (eva_cons (ev_lst (eva_cons (ev_bin (ev_var (i := 1) rfl (vis_of rfl) rfl rfl) (ev_bin (ev_bin (ev_var (i := 0) rfl (vis_of rfl) rfl rfl) ev_int) (ev_bin (ev_bin (ev_var (i := 2) rfl (vis_of rfl) rfl rfl) (ev_var (i := 1) rfl (vis_of rfl) rfl rfl)) ev_int))) (eva_cons (ev_bin (ev_var (i := 1) rfl (vis_of rfl) rfl rfl) (ev_bin (ev_bin (ev_var (i := 0) rfl (vis_of rfl) rfl rfl) ev_int) (ev_bin (ev_bin (ev_var (i := 2) rfl (vis_of rfl) rfl rfl) (ev_var (i := 1) rfl (vis_of rfl) rfl rfl)) ev_int))) eva_nil rfl) rfl)) eva_nil rfl) rfl (blt_name .sorted).1 (blt_name .sorted).2) rfl)
  (evs_cons (evs_if (evt_cmp hu (ev_bin (ev_var (i := 0) rfl (vis_of rfl) rfl rfl) ev_int) ev_int rfl)
  (evs_one (evs_set (i := 3) sN rfl (loc_of rfl) (.inl rfl) (ev_rev (ev_var (i := 3) rfl (vis_of rfl) rfl rfl)) rfl))
  evs_nil)
  (evs_one (evs_ret (ev_idx (ev_lst (eva_cons (ev_tup (eva_cons (ev_idx (ev_var (i := 3) rfl (vis_of rfl) rfl rfl) ev_int rfl) (eva_cons (ev_idx (ev_var (i := 3) rfl (vis_of rfl) rfl rfl) ev_int rfl) eva_nil rfl) rfl)) (eva_cons (ev_tup (eva_cons (ev_idx (ev_var (i := 3) rfl (vis_of rfl) rfl rfl) ev_int rfl) (eva_cons ev_non eva_nil rfl) rfl)) (eva_cons (ev_tup (eva_cons ev_non (eva_cons (ev_idx (ev_var (i := 3) rfl (vis_of rfl) rfl rfl) ev_int rfl) eva_nil rfl) rfl)) (eva_cons (ev_tup (eva_cons (ev_idx (ev_var (i := 3) rfl (vis_of rfl) rfl rfl) ev_int rfl) (eva_cons (ev_bin (ev_idx (ev_var (i := 3) rfl (vis_of rfl) rfl rfl) ev_int rfl) ev_int) eva_nil rfl) rfl)) eva_nil rfl) rfl) rfl) rfl)) (ev_bin (ev_var (i := 0) rfl (vis_of rfl) rfl rfl) ev_int) rfl)))))
theorem s__law_hand_test : FnScope n__law_hand_test ["_law_draws_here", "_law_deep"] (defScope st__law_hand_test) := ⟨rfl, rfl, rfl, by decide +kernel, rfl, by decide +kernel, by decide +kernel⟩
theorem ok__law_hand_test {qual : Str} {f : Addr} {fd : FuncData} (F : Fun K "_law_hand_test" qual st__law_hand_test f fd) (T : Txt K w mg) (hmg : mg "_law_hand_test" = some (.ref f)) (hb : Binds K fd ["_law_draws_here", "_law_deep"] []) (c__law_bounds : Cal P w K mg base "_law_bounds" 3 f__law_bounds 1) : ∀ k, FnG P w K mg base (L2N.CX P w) (1 + k) f fd ["_law_draws_here", "_law_deep"] (spOf K mg 2 (f__law_hand_test k)) := by
  intro k
  induction k with
  | zero => exact fn_fail
  | succ k ih =>
  refine fn_ok (k := 1 + k) F s__law_hand_test fun cdv A outer s H E hr => ?_
  have c__law_hand_test : Cal P w K mg base "_law_hand_test" 2 (f__law_hand_test k) (1 + k) := ⟨⟨f, fd, _, hmg, F.kp, hb, ih⟩⟩
  have hu := hr.units
  have sN := s__law_hand_test.nd
  have tk : L2N.Takes (cxOf (L2N.CX P w) P w K mg base n__law_hand_test qual (defScope st__law_hand_test) f cdv A outer s H E) (fun cls dx _ H => E cls dx H) := L2N.takes_of rfl rfl rfl rfl
  have pw : PassesOwn (model P w) (A.deeper (envOfC qual (defScope st__law_hand_test) s.heap.objs.size f cdv)) (cxOf (L2N.CX P w) P w K mg base n__law_hand_test qual (defScope st__law_hand_test) f cdv A outer s H E).env (cxOf (L2N.CX P w) P w K mg base n__law_hand_test qual (defScope st__law_hand_test) f cdv A outer s H E).xe := passes_of rfl
  exact (evs_cons (evs_set (i := 2) sN rfl (loc_of rfl) (.inl rfl) (ev_popAt (ev_var (i := 0) rfl (vis_of rfl) rfl rfl) ev_int rfl rfl rfl) rfl)
  (evs_cons (evs_if (EvTs.t (evts_and (evt_cmp hu (ev_var (i := 1) rfl (vis_of rfl) rfl rfl) ev_int rfl) (evts_and (evt_cmp hu (ev_bin (ev_var (i := 2) rfl (vis_of rfl) rfl rfl) ev_int) ev_int rfl) evts_and_nil)))
  (evs_cons (evs_set (i := 3) sN rfl (loc_of rfl) (.inl rfl) (ev_idx (ev_lst (eva_cons ev_str (eva_cons ev_str (eva_cons ev_str (eva_cons ev_str eva_nil rfl) rfl) rfl) rfl)) (ev_bin (ev_bin (ev_var (i := 2) rfl (vis_of rfl) rfl rfl) ev_int) ev_int) rfl) rfl)
  (evs_cons (evs_if (evt_cmp hu (ev_var (i := 3) rfl (vis_of rfl) rfl rfl) ev_str rfl)
  (evs_one (evs_ret (ev_tup (eva_cons (ev_var (i := 3) rfl (vis_of rfl) rfl rfl) (eva_cons (ev_call tk rfl (c__law_hand_test.ok (hr.mono (by omega))) (eva_cons (ev_var (i := 0) rfl (vis_of rfl) rfl rfl) (eva_cons (ev_bin (ev_var (i := 1) rfl (vis_of rfl) rfl rfl) ev_int) eva_nil rfl) rfl) rfl rfl) eva_nil rfl) rfl))))
  evs_nil)
  (evs_one (evs_ret (ev_tup (eva_cons (ev_var (i := 3) rfl (vis_of rfl) rfl rfl) (eva_cons (ev_call tk rfl (c__law_hand_test.ok (hr.mono (by omega))) (eva_cons (ev_var (i := 0) rfl (vis_of rfl) rfl rfl) (eva_cons (ev_bin (ev_var (i := 1) rfl (vis_of rfl) rfl rfl) ev_int) eva_nil rfl) rfl) rfl rfl) (eva_cons (ev_call tk rfl (c__law_hand_test.ok (hr.mono (by omega))) (eva_cons (ev_var (i := 0) rfl (vis_of rfl) rfl rfl) (eva_cons (ev_bin (ev_var (i := 1) rfl (vis_of rfl) rfl rfl) ev_int) eva_nil rfl) rfl) rfl rfl) eva_nil rfl) rfl) rfl))))))
  evs_nil)
  (evs_cons (evs_asg (ev_call tk rfl (c__law_bounds.ok (hr.mono (by omega))) (eva_cons (ev_bin (ev_var (i := 2) rfl (vis_of rfl) rfl rfl) ev_int) (eva_cons (ev_neg ev_int) (eva_cons ev_int eva_nil rfl) rfl) rfl) rfl rfl) (evg_tup rfl (evgs_cons (evg_name (i := 4) sN rfl (loc_of rfl) (.inl rfl)) (evgs_cons (evg_name (i := 5) sN rfl (loc_of rfl) (.inl rfl)) evgs_nil rfl) rfl) rfl rfl) rfl rfl rfl)
  (evs_cons (evs_set (i := 6) sN rfl (loc_of rfl) (.inl rfl) (ev_cmp hu (ev_bin (ev_bin (ev_var (i := 2) rfl (vis_of rfl) rfl rfl) ev_int) ev_int) ev_int rfl) rfl)
  (evs_cons (evs_set (i := 7) sN rfl (loc_of rfl) (.inl rfl) (ev_lst (eva_cons (ev_tup (eva_cons ev_str (eva_cons (ev_bin (ev_bin (ev_var (i := 2) rfl (vis_of rfl) rfl rfl) ev_int) (ev_idx (ev_lst (eva_cons ev_int (eva_cons ev_int eva_nil rfl) rfl)) (ev_blt rfl T.b_int (blt_boot .int) (blt_kind .int) (blt_ok rfl .int) (eva_cons (ev_var (i := 6) rfl (vis_of rfl) rfl rfl) eva_nil rfl) rfl (blt_name .int).1 (blt_name .int).2) rfl)) eva_nil rfl) rfl)) (eva_cons (ev_tup (eva_cons ev_str (eva_cons (ev_bin (ev_bin (ev_var (i := 2) rfl (vis_of rfl) rfl rfl) ev_int) ev_int) (eva_cons (ev_var (i := 4) rfl (vis_of rfl) rfl rfl) (eva_cons (ev_var (i := 5) rfl (vis_of rfl) rfl rfl) eva_nil rfl) rfl) rfl) rfl)) (eva_cons (ev_tup (eva_cons ev_str (eva_cons (ev_bin (ev_bin (ev_var (i := 2) rfl (vis_of rfl) rfl rfl) ev_int) ev_int) eva_nil rfl) rfl)) eva_nil rfl) rfl) rfl)) rfl)
  (evs_one (evs_ret (ev_idx (ev_bin (ev_var (i := 7) rfl (vis_of rfl) rfl rfl) (ev_lst (eva_cons (ev_tup (eva_cons ev_str eva_nil rfl)) (eva_cons (ev_tup (eva_cons ev_str (eva_cons (ev_bin (ev_bin (ev_var (i := 2) rfl (vis_of rfl) rfl rfl) ev_int) ev_int) (eva_cons (ev_bin (ev_bin (ev_var (i := 2) rfl (vis_of rfl) rfl rfl) ev_int) ev_int) eva_nil rfl) rfl) rfl)) (eva_cons (ev_tup (eva_cons ev_str eva_nil rfl)) eva_nil rfl) rfl) rfl))) (ev_bin (ev_bin (ev_var (i := 2) rfl (vis_of rfl) rfl rfl) ev_int) ev_int) rfl))))))))
theorem s__law_test : FnScope n__law_test ["_law_draws_here", "_law_roles", "_law_deep"] (defScope st__law_test) := ⟨rfl, rfl, rfl, by decide +kernel, rfl, by decide +kernel, by decide +kernel⟩
theorem ok__law_test {qual : Str} {f : Addr} {fd : FuncData} (F : Fun K "_law_test" qual st__law_test f fd) (T : Txt K w mg) (hmg : mg "_law_test" = some (.ref f)) (hb : Binds K fd ["_law_draws_here", "_law_roles", "_law_deep"] []) (c__law_bounds : Cal P w K mg base "_law_bounds" 3 f__law_bounds 1) (c__law_hand_test : Cal P w K mg base "_law_hand_test" 2 (f__law_hand_test 37) 38) : ∀ k, FnG P w K mg base (L2N.CX P w) (38 + k) f fd ["_law_draws_here", "_law_roles", "_law_deep"] (spOf K mg 3 (f__law_test k)) := by
  intro k
  induction k with
  | zero => exact fn_fail
  | succ k ih =>
  refine fn_ok (k := 38 + k) F s__law_test fun cdv A outer s H E hr => ?_
  have c__law_test : Cal P w K mg base "_law_test" 3 (f__law_test k) (38 + k) := ⟨⟨f, fd, _, hmg, F.kp, hb, ih⟩⟩
  have hu := hr.units
  have sN := s__law_test.nd
  have tk : L2N.Takes (cxOf (L2N.CX P w) P w K mg base n__law_test qual (defScope st__law_test) f cdv A outer s H E) (fun cls dx _ H => E cls dx H) := L2N.takes_of rfl rfl rfl rfl
  have pw : PassesOwn (model P w) (A.deeper (envOfC qual (defScope st__law_test) s.heap.objs.size f cdv)) (cxOf (L2N.CX P w) P w K mg base n__law_test qual (defScope st__law_test) f cdv A outer s H E).env (cxOf (L2N.CX P w) P w K mg base n__law_test qual (defScope st__law_test) f cdv A outer s H E).xe := passes_of rfl
  exact (evs_cons (evs_set (i := 3) sN rfl (loc_of rfl) (.inl rfl) (ev_popAt (ev_var (i := 0) rfl (vis_of rfl) rfl rfl) ev_int rfl rfl rfl) rfl)
  (evs_cons (evs_if (EvTs.t (evts_and (evt_cmp hu (ev_var (i := 2) rfl (vis_of rfl) rfl rfl) ev_int rfl) (evts_and (evt_cmp hu (ev_bin (ev_var (i := 3) rfl (vis_of rfl) rfl rfl) ev_int) ev_int rfl) evts_and_nil)))
  (evs_cons (evs_set (i := 4) sN rfl (loc_of rfl) (.inl rfl) (ev_idx (ev_lst (eva_cons ev_str (eva_cons ev_str (eva_cons ev_str (eva_cons ev_str eva_nil rfl) rfl) rfl) rfl)) (ev_bin (ev_bin (ev_var (i := 3) rfl (vis_of rfl) rfl rfl) ev_int) ev_int) rfl) rfl)
  (evs_cons (evs_if (evt_cmp hu (ev_var (i := 4) rfl (vis_of rfl) rfl rfl) ev_str rfl)
  (evs_one (evs_ret (ev_tup (eva_cons (ev_var (i := 4) rfl (vis_of rfl) rfl rfl) (eva_cons (ev_call tk rfl (c__law_test.ok (hr.mono (by omega))) (eva_cons (ev_var (i := 0) rfl (vis_of rfl) rfl rfl) (eva_cons (ev_var (i := 1) rfl (vis_of rfl) rfl rfl) (eva_cons (ev_bin (ev_var (i := 2) rfl (vis_of rfl) rfl rfl) ev_int) eva_nil rfl) rfl) rfl) rfl rfl) eva_nil rfl) rfl))))
  evs_nil)
  (evs_one (evs_ret (ev_tup (eva_cons (ev_var (i := 4) rfl (vis_of rfl) rfl rfl) (eva_cons (ev_call tk rfl (c__law_test.ok (hr.mono (by omega))) (eva_cons (ev_var (i := 0) rfl (vis_of rfl) rfl rfl) (eva_cons (ev_var (i := 1) rfl (vis_of rfl) rfl rfl) (eva_cons (ev_bin (ev_var (i := 2) rfl (vis_of rfl) rfl rfl) ev_int) eva_nil rfl) rfl) rfl) rfl rfl) (eva_cons (ev_call tk rfl (c__law_test.ok (hr.mono (by omega))) (eva_cons (ev_var (i := 0) rfl (vis_of rfl) rfl rfl) (eva_cons (ev_var (i := 1) rfl (vis_of rfl) rfl rfl) (eva_cons (ev_bin (ev_var (i := 2) rfl (vis_of rfl) rfl rfl) ev_int) eva_nil rfl) rfl) rfl) rfl rfl) eva_nil rfl) rfl) rfl))))))
  evs_nil)
  (evs_cons (evs_asg (ev_call tk rfl (c__law_bounds.ok (hr.mono (by omega))) (eva_cons (ev_bin (ev_var (i := 3) rfl (vis_of rfl) rfl rfl) ev_int) (eva_cons ev_int (eva_cons (ev_idx (ev_lst (eva_cons ev_int (eva_cons ev_int eva_nil rfl) rfl)) (ev_bin (ev_bin (ev_var (i := 3) rfl (vis_of rfl) rfl rfl) ev_int) ev_int) rfl) eva_nil rfl) rfl) rfl) rfl rfl) (evg_tup rfl (evgs_cons (evg_name (i := 5) sN rfl (loc_of rfl) (.inl rfl)) (evgs_cons (evg_name (i := 6) sN rfl (loc_of rfl) (.inl rfl)) evgs_nil rfl) rfl) rfl rfl) rfl rfl rfl)
  (evs_cons (evs_if (evt_cmp hu (ev_bin (ev_bin (ev_var (i := 3) rfl (vis_of rfl) rfl rfl) ev_int) ev_int) ev_int rfl)
  (evs_one (evs_ret (ev_tup (eva_cons ev_str (eva_cons (ev_bin ev_int (ev_bin (ev_bin (ev_var (i := 3) rfl (vis_of rfl) rfl rfl) ev_int) ev_int)) (eva_cons (ev_var (i := 5) rfl (vis_of rfl) rfl rfl) (eva_cons (ev_var (i := 6) rfl (vis_of rfl) rfl rfl) eva_nil rfl) rfl) rfl) rfl))))
  evs_nil)
  (evs_one (evs_ret (ev_tup (eva_cons ev_str (eva_cons (ev_bin (ev_bin (ev_var (i := 3) rfl (vis_of rfl) rfl rfl) ev_int) (ev_var (i := 1) rfl (vis_of rfl) rfl rfl)) (eva_cons (ev_call tk rfl (c__law_hand_test.ok (hr.mono (by omega))) (eva_cons (ev_var (i := 0) rfl (vis_of rfl) rfl rfl) (eva_cons ev_int eva_nil rfl) rfl) rfl rfl) (eva_cons (ev_var (i := 5) rfl (vis_of rfl) rfl rfl) (eva_cons (ev_var (i := 6) rfl (vis_of rfl) rfl rfl) eva_nil rfl) rfl) rfl) rfl) rfl))))))))
theorem s__law_claim : FnScope n__law_claim ["_law_cell", "_law_roles"] (defScope st__law_claim) := ⟨rfl, rfl, rfl, by decide +kernel, rfl, by decide +kernel, by decide +kernel⟩
theorem ok__law_claim {qual : Str} {f : Addr} {fd : FuncData} (F : Fun K "_law_claim" qual st__law_claim f fd) (T : Txt K w mg) (c__law_draws : Cal P w K mg base "_law_draws" 3 f__law_draws 2) (c__law_test : Cal P w K mg base "_law_test" 3 (f__law_test 37) 75) : FnG P w K mg base (L2N.CX P w) 76 f fd ["_law_cell", "_law_roles"] (spOf K mg 2 f__law_claim) := by
  refine fn_ok (k := 75) F s__law_claim fun cdv A outer s H E hr => ?_
  have hu := hr.units
  have sN := s__law_claim.nd
  have tk : L2N.Takes (cxOf (L2N.CX P w) P w K mg base n__law_claim qual (defScope st__law_claim) f cdv A outer s H E) (fun cls dx _ H => E cls dx H) := L2N.takes_of rfl rfl rfl rfl
  have pw : PassesOwn (model P w) (A.deeper (envOfC qual (defScope st__law_claim) s.heap.objs.size f cdv)) (cxOf (L2N.CX P w) P w K mg base n__law_claim qual (defScope st__law_claim) f cdv A outer s H E).env (cxOf (L2N.CX P w) P w K mg base n__law_claim qual (defScope st__law_claim) f cdv A outer s H E).xe := passes_of rfl
  exact (evs_cons (evs_set (i := 2) sN rfl (loc_of rfl) (.inl rfl) (ev_call tk rfl (c__law_draws.ok (hr.mono (by decide))) (eva_cons (ev_bin (ev_var (i := 0) rfl (vis_of rfl) rfl rfl) ev_int) (eva_cons ev_int (eva_cons (ev_bin ev_int ev_int) eva_nil rfl) rfl) rfl) rfl rfl) rfl)
  (evs_cons (evs_set (i := 3) sN rfl (loc_of rfl) (.inl rfl) (ev_idx (ev_lst (eva_cons ev_str (eva_cons ev_str (eva_cons ev_str eva_nil rfl) rfl) rfl)) (ev_bin (ev_var (i := 0) rfl (vis_of rfl) rfl rfl) ev_int) rfl) rfl)
  (evs_cons (evs_if (evt_cmp hu (ev_var (i := 3) rfl (vis_of rfl) rfl rfl) ev_str rfl)
  (evs_one (evs_ret (ev_tup (eva_cons (ev_var (i := 3) rfl (vis_of rfl) rfl rfl) (eva_cons (ev_call tk rfl (c__law_test.ok (hr.mono (by decide))) (eva_cons (ev_var (i := 2) rfl (vis_of rfl) rfl rfl) (eva_cons (ev_var (i := 1) rfl (vis_of rfl) rfl rfl) (eva_cons ev_int eva_nil rfl) rfl) rfl) rfl rfl) eva_nil rfl) rfl))))
  evs_nil)
  (evs_one (evs_ret (ev_tup (eva_cons (ev_var (i := 3) rfl (vis_of rfl) rfl rfl) (eva_cons (ev_call tk rfl (c__law_test.ok (hr.mono (by decide))) (eva_cons (ev_var (i := 2) rfl (vis_of rfl) rfl rfl) (eva_cons (ev_var (i := 1) rfl (vis_of rfl) rfl rfl) (eva_cons ev_int eva_nil rfl) rfl) rfl) rfl rfl) (eva_cons (ev_call tk rfl (c__law_test.ok (hr.mono (by decide))) (eva_cons (ev_var (i := 2) rfl (vis_of rfl) rfl rfl) (eva_cons (ev_var (i := 1) rfl (vis_of rfl) rfl rfl) (eva_cons ev_int eva_nil rfl) rfl) rfl) rfl rfl) eva_nil rfl) rfl) rfl)))))))
theorem s_is_told : FnScope n_is_told ["thing", "word", "many"] (defScope st_is_told) := ⟨rfl, rfl, rfl, by decide +kernel, rfl, by decide +kernel, by decide +kernel⟩
theorem ok_is_told {qual : Str} {f : Addr} {fd : FuncData} (F : Fun K "is_told" qual st_is_told f fd) (T : Txt K w mg)  : FnG P w K mg base (L2N.CX P w) 1 f fd ["thing", "word", "many"] (spOf K mg 3 f_is_told) := by
  refine fn_ok (k := 0) F s_is_told fun cdv A outer s H E hr => ?_
  have hu := hr.units
  have sN := s_is_told.nd
  have tk : L2N.Takes (cxOf (L2N.CX P w) P w K mg base n_is_told qual (defScope st_is_told) f cdv A outer s H E) (fun cls dx _ H => E cls dx H) := L2N.takes_of rfl rfl rfl rfl
  have pw : PassesOwn (model P w) (A.deeper (envOfC qual (defScope st_is_told) s.heap.objs.size f cdv)) (cxOf (L2N.CX P w) P w K mg base n_is_told qual (defScope st_is_told) f cdv A outer s H E).env (cxOf (L2N.CX P w) P w K mg base n_is_told qual (defScope st_is_told) f cdv A outer s H E).xe := passes_of rfl
  exact (evs_one (evs_ret (ev_and (ev_isi (T := .tuple) rfl T.b_isinstance rfl T.b_tuple (ev_var (i := 0) rfl (vis_of rfl) rfl rfl) rfl) (ev_and (ev_cmp hu (ev_blt rfl T.b_len (blt_boot .len) (blt_kind .len) (blt_ok rfl .len) (eva_cons (ev_var (i := 0) rfl (vis_of rfl) rfl rfl) eva_nil rfl) rfl (blt_name .len).1 (blt_name .len).2) (ev_bin (ev_var (i := 2) rfl (vis_of rfl) rfl rfl) ev_int) rfl) (ev_one (ev_cmp hu (ev_idx (ev_var (i := 0) rfl (vis_of rfl) rfl rfl) ev_int rfl) (ev_var (i := 1) rfl (vis_of rfl) rfl rfl) rfl))))))
theorem s_is_whole : FnScope n_is_whole ["thing"] (defScope st_is_whole) := ⟨rfl, rfl, rfl, by decide +kernel, rfl, by decide +kernel, by decide +kernel⟩
theorem ok_is_whole {qual : Str} {f : Addr} {fd : FuncData} (F : Fun K "is_whole" qual st_is_whole f fd) (T : Txt K w mg)  : FnG P w K mg base (L2N.CX P w) 1 f fd ["thing"] (spOf K mg 1 f_is_whole) := by
  refine fn_ok (k := 0) F s_is_whole fun cdv A outer s H E hr => ?_
  have hu := hr.units
  have sN := s_is_whole.nd
  have tk : L2N.Takes (cxOf (L2N.CX P w) P w K mg base n_is_whole qual (defScope st_is_whole) f cdv A outer s H E) (fun cls dx _ H => E cls dx H) := L2N.takes_of rfl rfl rfl rfl
  have pw : PassesOwn (model P w) (A.deeper (envOfC qual (defScope st_is_whole) s.heap.objs.size f cdv)) (cxOf (L2N.CX P w) P w K mg base n_is_whole qual (defScope st_is_whole) f cdv A outer s H E).env (cxOf (L2N.CX P w) P w K mg base n_is_whole qual (defScope st_is_whole) f cdv A outer s H E).xe := passes_of rfl
  exact (evs_one (evs_ret (ev_and (ev_isi (T := .int) rfl T.b_isinstance rfl T.b_int (ev_var (i := 0) rfl (vis_of rfl) rfl rfl) rfl) (ev_one (ev_not (ev_isi (T := .bool) rfl T.b_isinstance rfl T.b_bool (ev_var (i := 0) rfl (vis_of rfl) rfl rfl) rfl))))))
theorem s_is_from : FnScope n_is_from ["thing", "low", "high"] (defScope st_is_from) := ⟨rfl, rfl, rfl, by decide +kernel, rfl, by decide +kernel, by decide +kernel⟩
theorem ok_is_from {qual : Str} {f : Addr} {fd : FuncData} (F : Fun K "is_from" qual st_is_from f fd) (T : Txt K w mg) (c_is_whole : Cal P w K mg base "is_whole" 1 f_is_whole 1) : FnG P w K mg base (L2N.CX P w) 2 f fd ["thing", "low", "high"] (spOf K mg 3 f_is_from) := by
  refine fn_ok (k := 1) F s_is_from fun cdv A outer s H E hr => ?_
  have hu := hr.units
  have sN := s_is_from.nd
  have tk : L2N.Takes (cxOf (L2N.CX P w) P w K mg base n_is_from qual (defScope st_is_from) f cdv A outer s H E) (fun cls dx _ H => E cls dx H) := L2N.takes_of rfl rfl rfl rfl
  have pw : PassesOwn (model P w) (A.deeper (envOfC qual (defScope st_is_from) s.heap.objs.size f cdv)) (cxOf (L2N.CX P w) P w K mg base n_is_from qual (defScope st_is_from) f cdv A outer s H E).env (cxOf (L2N.CX P w) P w K mg base n_is_from qual (defScope st_is_from) f cdv A outer s H E).xe := passes_of rfl
  exact (evs_one (evs_ret (ev_and (ev_call tk rfl (c_is_whole.ok (hr.mono (by decide))) (eva_cons (ev_var (i := 0) rfl (vis_of rfl) rfl rfl) eva_nil rfl) rfl rfl) (ev_one (ev_chain hu (ev_var (i := 1) rfl (vis_of rfl) rfl rfl) (ev_var (i := 0) rfl (vis_of rfl) rfl rfl) (ev_var (i := 2) rfl (vis_of rfl) rfl rfl) rfl)))))
theorem s_is_bound : FnScope n_is_bound ["thing", "low", "high"] (defScope st_is_bound) := ⟨rfl, rfl, rfl, by decide +kernel, rfl, by decide +kernel, by decide +kernel⟩
theorem ok_is_bound {qual : Str} {f : Addr} {fd : FuncData} (F : Fun K "is_bound" qual st_is_bound f fd) (T : Txt K w mg) (c_is_whole : Cal P w K mg base "is_whole" 1 f_is_whole 1) : FnG P w K mg base (L2N.CX P w) 2 f fd ["thing", "low", "high"] (spOf K mg 3 f_is_bound) := by
  refine fn_ok (k := 1) F s_is_bound fun cdv A outer s H E hr => ?_
  have hu := hr.units
  have sN := s_is_bound.nd
  have tk : L2N.Takes (cxOf (L2N.CX P w) P w K mg base n_is_bound qual (defScope st_is_bound) f cdv A outer s H E) (fun cls dx _ H => E cls dx H) := L2N.takes_of rfl rfl rfl rfl
  have pw : PassesOwn (model P w) (A.deeper (envOfC qual (defScope st_is_bound) s.heap.objs.size f cdv)) (cxOf (L2N.CX P w) P w K mg base n_is_bound qual (defScope st_is_bound) f cdv A outer s H E).env (cxOf (L2N.CX P w) P w K mg base n_is_bound qual (defScope st_is_bound) f cdv A outer s H E).xe := passes_of rfl
  exact (evs_cons (evs_if (evt_cmp hu (ev_var (i := 0) rfl (vis_of rfl) rfl rfl) ev_non rfl)
  (evs_one (evs_ret ev_bl))
  evs_nil)
  (evs_cons (evs_if (EvTs.t (evts_or (evt_not (evt_plain (ev_call tk rfl (c_is_whole.ok (hr.mono (by decide))) (eva_cons (ev_var (i := 0) rfl (vis_of rfl) rfl rfl) eva_nil rfl) rfl rfl) rfl)) (evts_or (EvTs.t (evts_and (evt_cmp hu (ev_var (i := 1) rfl (vis_of rfl) rfl rfl) ev_non rfl) (evts_and (evt_cmp hu (ev_var (i := 0) rfl (vis_of rfl) rfl rfl) (ev_var (i := 1) rfl (vis_of rfl) rfl rfl) rfl) evts_and_nil))) evts_or_nil)))
  (evs_one (evs_ret ev_bl))
  evs_nil)
  (evs_one (evs_ret (ev_or (ev_cmp hu (ev_var (i := 2) rfl (vis_of rfl) rfl rfl) ev_non rfl) (ev_one (ev_cmp hu (ev_var (i := 0) rfl (vis_of rfl) rfl rfl) (ev_var (i := 2) rfl (vis_of rfl) rfl rfl) rfl)))))))
theorem s_is_box_test : FnScope n_is_box_test ["thing"] (defScope st_is_box_test) := ⟨rfl, rfl, rfl, by decide +kernel, rfl, by decide +kernel, by decide +kernel⟩
theorem ok_is_box_test {qual : Str} {f : Addr} {fd : FuncData} (F : Fun K "is_box_test" qual st_is_box_test f fd) (T : Txt K w mg) (c_is_told : Cal P w K mg base "is_told" 3 f_is_told 1) (c_is_from : Cal P w K mg base "is_from" 3 f_is_from 2) (c_is_bound : Cal P w K mg base "is_bound" 3 f_is_bound 2) : FnG P w K mg base (L2N.CX P w) 3 f fd ["thing"] (spOf K mg 1 f_is_box_test) := by
  refine fn_ok (k := 2) F s_is_box_test fun cdv A outer s H E hr => ?_
  have hu := hr.units
  have sN := s_is_box_test.nd
  have tk : L2N.Takes (cxOf (L2N.CX P w) P w K mg base n_is_box_test qual (defScope st_is_box_test) f cdv A outer s H E) (fun cls dx _ H => E cls dx H) := L2N.takes_of rfl rfl rfl rfl
  have pw : PassesOwn (model P w) (A.deeper (envOfC qual (defScope st_is_box_test) s.heap.objs.size f cdv)) (cxOf (L2N.CX P w) P w K mg base n_is_box_test qual (defScope st_is_box_test) f cdv A outer s H E).env (cxOf (L2N.CX P w) P w K mg base n_is_box_test qual (defScope st_is_box_test) f cdv A outer s H E).xe := passes_of rfl
  exact (evs_cons (evs_if (evt_plain (ev_call tk rfl (c_is_told.ok (hr.mono (by decide))) (eva_cons (ev_var (i := 0) rfl (vis_of rfl) rfl rfl) (eva_cons ev_str (eva_cons ev_int eva_nil rfl) rfl) rfl) rfl rfl) rfl)
  (evs_one (evs_ret (ev_call tk rfl (c_is_from.ok (hr.mono (by decide))) (eva_cons (ev_idx (ev_var (i := 0) rfl (vis_of rfl) rfl rfl) ev_int rfl) (eva_cons ev_int (eva_cons ev_int eva_nil rfl) rfl) rfl) rfl rfl)))
  evs_nil)
  (evs_cons (evs_if (evt_plain (ev_call tk rfl (c_is_told.ok (hr.mono (by decide))) (eva_cons (ev_var (i := 0) rfl (vis_of rfl) rfl rfl) (eva_cons ev_str (eva_cons ev_int eva_nil rfl) rfl) rfl) rfl rfl) rfl)
  (evs_one (evs_ret (ev_and (ev_call tk rfl (c_is_from.ok (hr.mono (by decide))) (eva_cons (ev_idx (ev_var (i := 0) rfl (vis_of rfl) rfl rfl) ev_int rfl) (eva_cons ev_int (eva_cons ev_int eva_nil rfl) rfl) rfl) rfl rfl) (ev_and (ev_call tk rfl (c_is_bound.ok (hr.mono (by decide))) (eva_cons (ev_idx (ev_var (i := 0) rfl (vis_of rfl) rfl rfl) ev_int rfl) (eva_cons ev_non (eva_cons ev_non eva_nil rfl) rfl) rfl) rfl rfl) (ev_one (ev_call tk rfl (c_is_bound.ok (hr.mono (by decide))) (eva_cons (ev_idx (ev_var (i := 0) rfl (vis_of rfl) rfl rfl) ev_int rfl) (eva_cons ev_non (eva_cons ev_non eva_nil rfl) rfl) rfl) rfl rfl))))))
  evs_nil)
  (evs_cons (evs_if (evt_plain (ev_call tk rfl (c_is_told.ok (hr.mono (by decide))) (eva_cons (ev_var (i := 0) rfl (vis_of rfl) rfl rfl) (eva_cons ev_str (eva_cons ev_int eva_nil rfl) rfl) rfl) rfl rfl) rfl)
  (evs_one (evs_ret (ev_call tk rfl (c_is_from.ok (hr.mono (by decide))) (eva_cons (ev_idx (ev_var (i := 0) rfl (vis_of rfl) rfl rfl) ev_int rfl) (eva_cons ev_int (eva_cons ev_int eva_nil rfl) rfl) rfl) rfl rfl)))
  evs_nil)
  (evs_cons (evs_if (evt_plain (ev_call tk rfl (c_is_told.ok (hr.mono (by decide))) (eva_cons (ev_var (i := 0) rfl (vis_of rfl) rfl rfl) (eva_cons ev_str (eva_cons ev_int eva_nil rfl) rfl) rfl) rfl rfl) rfl)
  (evs_one (evs_ret (ev_and (ev_call tk rfl (c_is_from.ok (hr.mono (by decide))) (eva_cons (ev_idx (ev_var (i := 0) rfl (vis_of rfl) rfl rfl) ev_int rfl) (eva_cons ev_int (eva_cons ev_int eva_nil rfl) rfl) rfl) rfl rfl) (ev_one (ev_call tk rfl (c_is_from.ok (hr.mono (by decide))) (eva_cons (ev_idx (ev_var (i := 0) rfl (vis_of rfl) rfl rfl) ev_int rfl) (eva_cons ev_int (eva_cons ev_int eva_nil rfl) rfl) rfl) rfl rfl)))))
  evs_nil)
  (evs_one (evs_ret (ev_or (ev_call tk rfl (c_is_told.ok (hr.mono (by decide))) (eva_cons (ev_var (i := 0) rfl (vis_of rfl) rfl rfl) (eva_cons ev_str (eva_cons ev_int eva_nil rfl) rfl) rfl) rfl rfl) (ev_one (ev_call tk rfl (c_is_told.ok (hr.mono (by decide))) (eva_cons (ev_var (i := 0) rfl (vis_of rfl) rfl rfl) (eva_cons ev_str (eva_cons ev_int eva_nil rfl) rfl) rfl) rfl rfl)))))))))
theorem s_is_joined : FnScope n_is_joined ["thing", "is_one"] (defScope st_is_joined) := ⟨rfl, rfl, rfl, by decide +kernel, rfl, by decide +kernel, by decide +kernel⟩
theorem ok_is_joined {qual : Str} {f : Addr} {fd : FuncData} (F : Fun K "is_joined" qual st_is_joined f fd) (T : Txt K w mg) (c_is_told : Cal P w K mg base "is_told" 3 f_is_told 1) (g_ : List D → Fn) (j_ : Nat) (hj_ : 1 ≤ j_) : FnH P w K mg base (L2N.CX P w) (j_ + 1) f fd ["thing", "is_one"] (spH K mg 2 (CloOk P w K mg base j_ 1 g_) (f_is_joined g_)) := by
  refine fnH_ok (N := n_is_joined) (ps := ["thing", "is_one"]) (k := j_) (body := m_is_joined g_) F s_is_joined fun c_ cdv A outer s H E hphi hr => ?_
  have hu := hr.units
  have sN := s_is_joined.nd
  have tk : L2N.Takes (cxOf (L2N.CX P w) P w K mg base n_is_joined qual (defScope st_is_joined) f cdv A outer s H E) (fun cls dx _ H => E cls dx H) := L2N.takes_of rfl rfl rfl rfl
  have pw : PassesOwn (model P w) (A.deeper (envOfC qual (defScope st_is_joined) s.heap.objs.size f cdv)) (cxOf (L2N.CX P w) P w K mg base n_is_joined qual (defScope st_is_joined) f cdv A outer s H E).env (cxOf (L2N.CX P w) P w K mg base n_is_joined qual (defScope st_is_joined) f cdv A outer s H E).xe := passes_of rfl
  exact (evs_cons (evs_if (evt_plain (ev_call tk rfl (c_is_told.ok (hr.mono (by omega))) (eva_cons (ev_var (i := 0) rfl (vis_of rfl) rfl rfl) (eva_cons ev_str (eva_cons ev_int eva_nil rfl) rfl) rfl) rfl rfl) rfl)
  (evs_one (evs_ret (ev_callF tk hphi hr rfl rfl (vis_of rfl) (eva_cons (ev_idx (ev_var (i := 0) rfl (vis_of rfl) rfl rfl) ev_int rfl) eva_nil rfl) rfl rfl rfl)))
  evs_nil)
  (evs_cons (evs_if (EvTs.t (evts_or (evt_plain (ev_call tk rfl (c_is_told.ok (hr.mono (by omega))) (eva_cons (ev_var (i := 0) rfl (vis_of rfl) rfl rfl) (eva_cons ev_str (eva_cons ev_int eva_nil rfl) rfl) rfl) rfl rfl) rfl) (evts_or (evt_plain (ev_call tk rfl (c_is_told.ok (hr.mono (by omega))) (eva_cons (ev_var (i := 0) rfl (vis_of rfl) rfl rfl) (eva_cons ev_str (eva_cons ev_int eva_nil rfl) rfl) rfl) rfl rfl) rfl) evts_or_nil)))
  (evs_one (evs_ret (ev_and (ev_callF tk hphi hr rfl rfl (vis_of rfl) (eva_cons (ev_idx (ev_var (i := 0) rfl (vis_of rfl) rfl rfl) ev_int rfl) eva_nil rfl) rfl rfl rfl) (ev_one (ev_callF tk hphi hr rfl rfl (vis_of rfl) (eva_cons (ev_idx (ev_var (i := 0) rfl (vis_of rfl) rfl rfl) ev_int rfl) eva_nil rfl) rfl rfl rfl)))))
  evs_nil)
  (evs_one (evs_ret ev_bl))))
theorem s_is_hand_test : FnScope n_is_hand_test ["thing"] (defScope st_is_hand_test) := ⟨rfl, rfl, rfl, by decide +kernel, rfl, by decide +kernel, by decide +kernel⟩
theorem ok_is_hand_test {f : Addr} {fd : FuncData} (F : Fun K "is_hand_test" "is_hand_test" st_is_hand_test f fd) (hf_ : f = He.fAd K ("is_hand_test", none)) (tb_ : LamX.TabB base mg (He.cT K ("is_hand_test", none)).1 (He.cT K ("is_hand_test", none)).2) (T : Txt K w mg) (hmg : mg "is_hand_test" = some (.ref f)) (hb : Binds K fd ["thing"] []) (c_is_box_test : Cal P w K mg base "is_box_test" 1 f_is_box_test 3) (c_is_joined : ∀ (g_ : List D → Fn) (j_ : Nat), 1 ≤ j_ → CalH P w K mg base "is_joined" 2 (CloOk P w K mg base j_ 1 g_) (f_is_joined g_) (j_ + 1)) : ∀ k, FnG P w K mg base (L2N.CX P w) (3 + 3 * k) f fd ["thing"] (spOf K mg 1 (f_is_hand_test k)) := by
  intro k
  induction k with
  | zero => exact fn_fail
  | succ k ih =>
  refine fn_okT (k := 3 + 3 * k + 2) F hf_ s_is_hand_test fun A outer s H E hr => ?_
  have c_is_hand_test : Cal P w K mg base "is_hand_test" 1 (f_is_hand_test k) (3 + 3 * k) := ⟨⟨f, fd, _, hmg, F.kp, hb, ih⟩⟩
  have hu := hr.units
  have sN := s_is_hand_test.nd
  have tk : L2N.Takes (cxOf (L2N.CX P w) P w K mg base n_is_hand_test "is_hand_test" (defScope st_is_hand_test) f (.ref (He.cT K ("is_hand_test", none)).1) A outer s H E) (fun cls dx _ H => E cls dx H) := L2N.takes_of rfl rfl rfl rfl
  have pw : PassesOwn (model P w) (A.deeper (envOfC "is_hand_test" (defScope st_is_hand_test) s.heap.objs.size f (.ref (He.cT K ("is_hand_test", none)).1))) (cxOf (L2N.CX P w) P w K mg base n_is_hand_test "is_hand_test" (defScope st_is_hand_test) f (.ref (He.cT K ("is_hand_test", none)).1) A outer s H E).env (cxOf (L2N.CX P w) P w K mg base n_is_hand_test "is_hand_test" (defScope st_is_hand_test) f (.ref (He.cT K ("is_hand_test", none)).1) A outer s H E).xe := passes_of rfl
  exact (evs_one (evs_ret (ev_or (ev_call tk rfl (c_is_box_test.ok (hr.mono (by omega))) (eva_cons (ev_var (i := 0) rfl (vis_of rfl) rfl rfl) eva_nil rfl) rfl rfl) (ev_one (ev_callL (es := [_]) (g := (g_is_hand_test_lam0 (f_is_hand_test k))) (ps := ["one"]) (fr := []) (js := []) rfl tk rfl ((c_is_joined (g_is_hand_test_lam0 (f_is_hand_test k)) ((3 + 3 * k) + 1) (by omega)).ok (hr.mono (by omega))) (fun _ => rfl) rfl (fun f_ cc_ ws_ => fnL_ok2 (k := (3 + 3 * k)) (N := n_is_hand_test_lam0) (ps := ["one"]) (fr := []) (NdefX.nscope_by (show NdefX.nscB n_is_hand_test_lam0 ["one"] [] _ = true by decide +kernel)) (fun _ _ us hl => match us, hl with | [_], _ => rfl) (fun A outer s H E hr tk pw => by have hu := hr.units; have sN : n_is_hand_test_lam0.Nodup := (by decide +kernel); exact (ev_call tk rfl (c_is_hand_test.ok (hr.mono (by omega))) (eva_cons (ev_var (i := 0) rfl (vis_of rfl) rfl rfl) eva_nil rfl) rfl rfl))) (fun ok_ => NdefX.Caps.made ok_ (NdefX.ndef_free (show NdefX.ndefB (defScope st_is_hand_test) _ [] = true by decide +kernel)) (NdefX.ndef_fr (show NdefX.ndefB (defScope st_is_hand_test) _ [] = true by decide +kernel)) rfl) tb_ rfl rfl rfl (NdefX.ndef_free (show NdefX.ndefB (defScope st_is_hand_test) _ [] = true by decide +kernel)) (.cons (ev_var (i := 0) rfl (vis_of rfl) rfl rfl) .nil rfl) rfl rfl)))))
theorem s_is_test : FnScope n_is_test ["thing", "roles"] (defScope st_is_test) := ⟨rfl, rfl, rfl, by decide +kernel, rfl, by decide +kernel, by decide +kernel⟩
theorem ok_is_test {f : Addr} {fd : FuncData} (F : Fun K "is_test" "is_test" st_is_test f fd) (hf_ : f = He.fAd K ("is_test", none)) (tb_ : LamX.TabB base mg (He.cT K ("is_test", none)).1 (He.cT K ("is_test", none)).2) (T : Txt K w mg) (hmg : mg "is_test" = some (.ref f)) (hb : Binds K fd ["thing", "roles"] []) (c_is_told : Cal P w K mg base "is_told" 3 f_is_told 1) (c_is_hand_test : Cal P w K mg base "is_hand_test" 1 (f_is_hand_test 37) 114) (c_is_from : Cal P w K mg base "is_from" 3 f_is_from 2) (c_is_bound : Cal P w K mg base "is_bound" 3 f_is_bound 2) (c_is_joined : ∀ (g_ : List D → Fn) (j_ : Nat), 1 ≤ j_ → CalH P w K mg base "is_joined" 2 (CloOk P w K mg base j_ 1 g_) (f_is_joined g_) (j_ + 1)) : ∀ k, FnG P w K mg base (L2N.CX P w) (114 + 3 * k) f fd ["thing", "roles"] (spOf K mg 2 (f_is_test k)) := by
  intro k
  induction k with
  | zero => exact fn_fail
  | succ k ih =>
  refine fn_okT (k := 114 + 3 * k + 2) F hf_ s_is_test fun A outer s H E hr => ?_
  have c_is_test : Cal P w K mg base "is_test" 2 (f_is_test k) (114 + 3 * k) := ⟨⟨f, fd, _, hmg, F.kp, hb, ih⟩⟩
  have hu := hr.units
  have sN := s_is_test.nd
  have tk : L2N.Takes (cxOf (L2N.CX P w) P w K mg base n_is_test "is_test" (defScope st_is_test) f (.ref (He.cT K ("is_test", none)).1) A outer s H E) (fun cls dx _ H => E cls dx H) := L2N.takes_of rfl rfl rfl rfl
  have pw : PassesOwn (model P w) (A.deeper (envOfC "is_test" (defScope st_is_test) s.heap.objs.size f (.ref (He.cT K ("is_test", none)).1))) (cxOf (L2N.CX P w) P w K mg base n_is_test "is_test" (defScope st_is_test) f (.ref (He.cT K ("is_test", none)).1) A outer s H E).env (cxOf (L2N.CX P w) P w K mg base n_is_test "is_test" (defScope st_is_test) f (.ref (He.cT K ("is_test", none)).1) A outer s H E).xe := passes_of rfl
  exact (evs_cons (evs_if (evt_plain (ev_call tk rfl (c_is_told.ok (hr.mono (by omega))) (eva_cons (ev_var (i := 0) rfl (vis_of rfl) rfl rfl) (eva_cons ev_str (eva_cons ev_int eva_nil rfl) rfl) rfl) rfl rfl) rfl)
  (evs_cons (evs_if (EvTs.t (evts_or (evt_not (evt_plain (ev_call tk rfl (c_is_from.ok (hr.mono (by omega))) (eva_cons (ev_idx (ev_var (i := 0) rfl (vis_of rfl) rfl rfl) ev_int rfl) (eva_cons ev_int (eva_cons (ev_bin (ev_var (i := 1) rfl (vis_of rfl) rfl rfl) ev_int) eva_nil rfl) rfl) rfl) rfl rfl) rfl)) (evts_or (evt_not (evt_plain (ev_call tk rfl (c_is_hand_test.ok (hr.mono (by omega))) (eva_cons (ev_idx (ev_var (i := 0) rfl (vis_of rfl) rfl rfl) ev_int rfl) eva_nil rfl) rfl rfl) rfl)) evts_or_nil)))
  (evs_one (evs_ret ev_bl))
  evs_nil)
  (evs_one (evs_ret (ev_and (ev_call tk rfl (c_is_bound.ok (hr.mono (by omega))) (eva_cons (ev_idx (ev_var (i := 0) rfl (vis_of rfl) rfl rfl) ev_int rfl) (eva_cons ev_int (eva_cons ev_int eva_nil rfl) rfl) rfl) rfl rfl) (ev_one (ev_call tk rfl (c_is_bound.ok (hr.mono (by omega))) (eva_cons (ev_idx (ev_var (i := 0) rfl (vis_of rfl) rfl rfl) ev_int rfl) (eva_cons ev_int (eva_cons ev_int eva_nil rfl) rfl) rfl) rfl rfl))))))
  evs_nil)
  (evs_cons (evs_if (evt_plain (ev_call tk rfl (c_is_told.ok (hr.mono (by omega))) (eva_cons (ev_var (i := 0) rfl (vis_of rfl) rfl rfl) (eva_cons ev_str (eva_cons ev_int eva_nil rfl) rfl) rfl) rfl rfl) rfl)
  (evs_one (evs_ret (ev_and (ev_call tk rfl (c_is_from.ok (hr.mono (by omega))) (eva_cons (ev_idx (ev_var (i := 0) rfl (vis_of rfl) rfl rfl) ev_int rfl) (eva_cons ev_int (eva_cons ev_int eva_nil rfl) rfl) rfl) rfl rfl) (ev_and (ev_call tk rfl (c_is_bound.ok (hr.mono (by omega))) (eva_cons (ev_idx (ev_var (i := 0) rfl (vis_of rfl) rfl rfl) ev_int rfl) (eva_cons ev_int (eva_cons ev_non eva_nil rfl) rfl) rfl) rfl rfl) (ev_one (ev_call tk rfl (c_is_bound.ok (hr.mono (by omega))) (eva_cons (ev_idx (ev_var (i := 0) rfl (vis_of rfl) rfl rfl) ev_int rfl) (eva_cons ev_int (eva_cons ev_non eva_nil rfl) rfl) rfl) rfl rfl))))))
  evs_nil)
  (evs_one (evs_ret (ev_callL (es := [_]) (g := (g_is_test_lam0 (f_is_test k))) (ps := ["one"]) (fr := ["roles"]) (js := [1]) rfl tk rfl ((c_is_joined (g_is_test_lam0 (f_is_test k)) ((114 + 3 * k) + 1) (by omega)).ok (hr.mono (by omega))) (fun _ => rfl) rfl (fun f_ cc_ ws_ => fnL_ok2 (k := (114 + 3 * k)) (N := n_is_test_lam0) (ps := ["one"]) (fr := ["roles"]) (NdefX.nscope_by (show NdefX.nscB n_is_test_lam0 ["one"] ["roles"] _ = true by decide +kernel)) (fun _ _ us hl => match us, hl with | [_], _ => rfl) (fun A outer s H E hr tk pw => by have hu := hr.units; have sN : n_is_test_lam0.Nodup := (by decide +kernel); exact (ev_call tk rfl (c_is_test.ok (hr.mono (by omega))) (eva_cons (ev_var (i := 0) rfl (vis_of rfl) rfl rfl) (eva_cons (ev_var (i := 1) rfl (vis_of rfl) rfl rfl) eva_nil rfl) rfl) rfl rfl))) (fun ok_ => NdefX.Caps.made ok_ (NdefX.ndef_free (show NdefX.ndefB (defScope st_is_test) _ ["roles"] = true by decide +kernel)) (NdefX.ndef_fr (show NdefX.ndefB (defScope st_is_test) _ ["roles"] = true by decide +kernel)) rfl) tb_ rfl rfl rfl (NdefX.ndef_free (show NdefX.ndefB (defScope st_is_test) _ ["roles"] = true by decide +kernel)) (.cons (ev_var (i := 0) rfl (vis_of rfl) rfl rfl) .nil rfl) rfl rfl)))))
theorem s_look_over_claim : FnScope n_look_over_claim ["program", "claim"] (defScope st_look_over_claim) := ⟨rfl, rfl, rfl, by decide +kernel, rfl, by decide +kernel, by decide +kernel⟩
theorem ok_look_over_claim {qual : Str} {f : Addr} {fd : FuncData} (F : Fun K "look_over_claim" qual st_look_over_claim f fd) (T : Txt K w mg) (c_is_told : Cal P w K mg base "is_told" 3 f_is_told 1) (c_is_test : Cal P w K mg base "is_test" 2 (f_is_test 37) 225) : FnG P w K mg base (L2N.CX P w) 226 f fd ["program", "claim"] (spOf K mg 2 f_look_over_claim) := by
  refine fn_ok (k := 225) F s_look_over_claim fun cdv A outer s H E hr => ?_
  have hu := hr.units
  have sN := s_look_over_claim.nd
  have tk : L2N.Takes (cxOf (L2N.CX P w) P w K mg base n_look_over_claim qual (defScope st_look_over_claim) f cdv A outer s H E) (fun cls dx _ H => E cls dx H) := L2N.takes_of rfl rfl rfl rfl
  have pw : PassesOwn (model P w) (A.deeper (envOfC qual (defScope st_look_over_claim) s.heap.objs.size f cdv)) (cxOf (L2N.CX P w) P w K mg base n_look_over_claim qual (defScope st_look_over_claim) f cdv A outer s H E).env (cxOf (L2N.CX P w) P w K mg base n_look_over_claim qual (defScope st_look_over_claim) f cdv A outer s H E).xe := passes_of rfl
  exact (evs_cons (evs_set (i := 2) sN rfl (loc_of rfl) (.inl rfl) (ev_blt rfl T.b_len (blt_boot .len) (blt_kind .len) (blt_ok rfl .len) (eva_cons (ev_idx (ev_var (i := 0) rfl (vis_of rfl) rfl rfl) ev_int rfl) eva_nil rfl) rfl (blt_name .len).1 (blt_name .len).2) rfl)
  (evs_cons (evs_set (i := 3) sN rfl (loc_of rfl) (.inl rfl) ev_bl rfl)
  (evs_cons (evs_if (evt_plain (ev_call tk rfl (c_is_told.ok (hr.mono (by decide))) (eva_cons (ev_var (i := 1) rfl (vis_of rfl) rfl rfl) (eva_cons ev_str (eva_cons ev_int eva_nil rfl) rfl) rfl) rfl rfl) rfl)
  (evs_one (evs_set (i := 3) sN rfl (loc_of rfl) (.inl rfl) (ev_call tk rfl (c_is_test.ok (hr.mono (by decide))) (eva_cons (ev_idx (ev_var (i := 1) rfl (vis_of rfl) rfl rfl) ev_int rfl) (eva_cons (ev_var (i := 2) rfl (vis_of rfl) rfl rfl) eva_nil rfl) rfl) rfl rfl) rfl))
  evs_nil)
  (evs_cons (evs_if (EvTs.t (evts_or (evt_plain (ev_call tk rfl (c_is_told.ok (hr.mono (by decide))) (eva_cons (ev_var (i := 1) rfl (vis_of rfl) rfl rfl) (eva_cons ev_str (eva_cons ev_int eva_nil rfl) rfl) rfl) rfl rfl) rfl) (evts_or (evt_plain (ev_call tk rfl (c_is_told.ok (hr.mono (by decide))) (eva_cons (ev_var (i := 1) rfl (vis_of rfl) rfl rfl) (eva_cons ev_str (eva_cons ev_int eva_nil rfl) rfl) rfl) rfl rfl) rfl) evts_or_nil)))
  (evs_one (evs_set (i := 3) sN rfl (loc_of rfl) (.inl rfl) (ev_and (ev_call tk rfl (c_is_test.ok (hr.mono (by decide))) (eva_cons (ev_idx (ev_var (i := 1) rfl (vis_of rfl) rfl rfl) ev_int rfl) (eva_cons (ev_var (i := 2) rfl (vis_of rfl) rfl rfl) eva_nil rfl) rfl) rfl rfl) (ev_one (ev_call tk rfl (c_is_test.ok (hr.mono (by decide))) (eva_cons (ev_idx (ev_var (i := 1) rfl (vis_of rfl) rfl rfl) ev_int rfl) (eva_cons (ev_var (i := 2) rfl (vis_of rfl) rfl rfl) eva_nil rfl) rfl) rfl rfl))) rfl))
  evs_nil)
  (evs_one (evs_if (evt_not (evt_plain (ev_var (i := 3) rfl (vis_of rfl) rfl rfl) rfl))
  (evs_one (evs_raise rfl tk T.e_NoClaim.ok rfl rfl))
  evs_nil))))))
theorem s__law_turned : FnScope n__law_turned ["_law_test_here", "_law_times"] (defScope st__law_turned) := ⟨rfl, rfl, rfl, by decide +kernel, rfl, by decide +kernel, by decide +kernel⟩
theorem ok__law_turned {qual : Str} {f : Addr} {fd : FuncData} (F : Fun K "_law_turned" qual st__law_turned f fd) (T : Txt K w mg)  : FnG P w K mg base (L2N.CX P w) 1 f fd ["_law_test_here", "_law_times"] (spOf K mg 2 f__law_turned) := by
  refine fn_ok (k := 0) F s__law_turned fun cdv A outer s H E hr => ?_
  have hu := hr.units
  have sN := s__law_turned.nd
  have tk : L2N.Takes (cxOf (L2N.CX P w) P w K mg base n__law_turned qual (defScope st__law_turned) f cdv A outer s H E) (fun cls dx _ H => E cls dx H) := L2N.takes_of rfl rfl rfl rfl
  have pw : PassesOwn (model P w) (A.deeper (envOfC qual (defScope st__law_turned) s.heap.objs.size f cdv)) (cxOf (L2N.CX P w) P w K mg base n__law_turned qual (defScope st__law_turned) f cdv A outer s H E).env (cxOf (L2N.CX P w) P w K mg base n__law_turned qual (defScope st__law_turned) f cdv A outer s H E).xe := passes_of rfl
  exact (evs_cons (evs_for pw rfl (evi_range1 rfl T.b_range (ev_var (i := 1) rfl (vis_of rfl) rfl rfl) rfl) (evg_name (i := 2) sN rfl (loc_of rfl) (.inl rfl))
  (evs_one (evs_set (i := 0) sN rfl (loc_of rfl) (.inl rfl) (ev_tup (eva_cons ev_str (eva_cons (ev_var (i := 0) rfl (vis_of rfl) rfl rfl) eva_nil rfl) rfl)) rfl)) rfl)
  (evs_one (evs_ret (ev_var (i := 0) rfl (vis_of rfl) rfl rfl))))
theorem s__law_odd : FnScope n__law_odd ["_law_thing", "_law_draw"] (defScope st__law_odd) := ⟨rfl, rfl, rfl, by decide +kernel, rfl, by decide +kernel, by decide +kernel⟩
theorem ok__law_odd {qual : Str} {f : Addr} {fd : FuncData} (F : Fun K "_law_odd" qual st__law_odd f fd) (T : Txt K w mg)  : FnG P w K mg base (L2N.CX P w) 1 f fd ["_law_thing", "_law_draw"] (spOf K mg 2 f__law_odd) := by
  refine fn_ok (k := 0) F s__law_odd fun cdv A outer s H E hr => ?_
  have hu := hr.units
  have sN := s__law_odd.nd
  have tk : L2N.Takes (cxOf (L2N.CX P w) P w K mg base n__law_odd qual (defScope st__law_odd) f cdv A outer s H E) (fun cls dx _ H => E cls dx H) := L2N.takes_of rfl rfl rfl rfl
  have pw : PassesOwn (model P w) (A.deeper (envOfC qual (defScope st__law_odd) s.heap.objs.size f cdv)) (cxOf (L2N.CX P w) P w K mg base n__law_odd qual (defScope st__law_odd) f cdv A outer s H E).env (cxOf (L2N.CX P w) P w K mg base n__law_odd qual (defScope st__law_odd) f cdv A outer s H E).xe := passes_of rfl
  exact (evs_cons (evs_if (evt_plain (ev_isi (T := .tuple) rfl T.b_isinstance rfl T.b_tuple (ev_var (i := 0) rfl (vis_of rfl) rfl rfl) rfl) rfl)
  (evs_cons (evs_set (i := 2) sN rfl (loc_of rfl) (.inl rfl) (ev_lst (eva_cons (ev_blt rfl T.b_list (blt_boot .list) (blt_kind .list) (blt_ok rfl .list) (eva_cons (ev_var (i := 0) rfl (vis_of rfl) rfl rfl) eva_nil rfl) rfl (blt_name .list).1 (blt_name .list).2) (eva_cons (ev_bin (ev_var (i := 0) rfl (vis_of rfl) rfl rfl) (ev_tup (eva_cons ev_int eva_nil rfl))) (eva_cons (ev_cut (ev_var (i := 0) rfl (vis_of rfl) rfl rfl) evo_none (evo_some (ev_neg ev_int))) (eva_cons (ev_cut (ev_var (i := 0) rfl (vis_of rfl) rfl rfl) evo_none (evo_some ev_int)) (eva_cons (ev_tup eva_nil) (eva_cons ev_non (eva_cons (ev_cut (ev_var (i := 0) rfl (vis_of rfl) rfl rfl) (evo_some ev_int) evo_none) (eva_cons (ev_bin (ev_var (i := 0) rfl (vis_of rfl) rfl rfl) (ev_cut (ev_var (i := 0) rfl (vis_of rfl) rfl rfl) (evo_some (ev_neg ev_int)) evo_none)) eva_nil rfl) rfl) rfl) rfl) rfl) rfl) rfl) rfl)) rfl)
  (evs_one (evs_ret (ev_idx (ev_var (i := 2) rfl (vis_of rfl) rfl rfl) (ev_bin (ev_var (i := 1) rfl (vis_of rfl) rfl rfl) ev_int) rfl))))
  evs_nil)
  (evs_cons (evs_if (evt_plain (ev_isi (T := .str) rfl T.b_isinstance rfl T.b_str (ev_var (i := 0) rfl (vis_of rfl) rfl rfl) rfl) rfl)
  (evs_one (evs_ret (ev_idx (ev_lst (eva_cons ev_str (eva_cons ev_str (eva_cons ev_str (eva_cons ev_str (eva_cons ev_str (eva_cons ev_str (eva_cons ev_str (eva_cons ev_int (eva_cons ev_str (eva_cons ev_str eva_nil rfl) rfl) rfl) rfl) rfl) rfl) rfl) rfl) rfl) rfl)) (ev_bin (ev_var (i := 1) rfl (vis_of rfl) rfl rfl) ev_int) rfl)))
  evs_nil)
  (evs_one (evs_ret (ev_idx (ev_lst (eva_cons ev_int (eva_cons (ev_neg ev_int) (eva_cons ev_bl (eva_cons ev_non (eva_cons ev_str (eva_cons (ev_tup (eva_cons ev_int eva_nil rfl)) (eva_cons ev_int (eva_cons ev_int (eva_cons ev_int (eva_cons ev_int eva_nil rfl) rfl) rfl) rfl) rfl) rfl) rfl) rfl) rfl) rfl)) (ev_bin (ev_var (i := 1) rfl (vis_of rfl) rfl rfl) ev_int) rfl)))))
theorem s__law_spoiled : FnScope n__law_spoiled ["_law_thing", "_law_draws_here", "_law_deep"] (defScope st__law_spoiled) := ⟨rfl, rfl, rfl, by decide +kernel, rfl, by decide +kernel, by decide +kernel⟩
theorem ok__law_spoiled {qual : Str} {f : Addr} {fd : FuncData} (F : Fun K "_law_spoiled" qual st__law_spoiled f fd) (T : Txt K w mg) (hmg : mg "_law_spoiled" = some (.ref f)) (hb : Binds K fd ["_law_thing", "_law_draws_here", "_law_deep"] []) (c__law_odd : Cal P w K mg base "_law_odd" 2 f__law_odd 1) : ∀ k, FnG P w K mg base (L2N.CX P w) (1 + k) f fd ["_law_thing", "_law_draws_here", "_law_deep"] (spOf K mg 3 (f__law_spoiled k)) := by
  intro k
  induction k with
  | zero => exact fn_fail
  | succ k ih =>
  refine fn_ok (k := 1 + k) F s__law_spoiled fun cdv A outer s H E hr => ?_
  have c__law_spoiled : Cal P w K mg base "_law_spoiled" 3 (f__law_spoiled k) (1 + k) := ⟨⟨f, fd, _, hmg, F.kp, hb, ih⟩⟩
  have hu := hr.units
  have sN := s__law_spoiled.nd
  have tk : L2N.Takes (cxOf (L2N.CX P w) P w K mg base n__law_spoiled qual (defScope st__law_spoiled) f cdv A outer s H E) (fun cls dx _ H => E cls dx H) := L2N.takes_of rfl rfl rfl rfl
  have pw : PassesOwn (model P w) (A.deeper (envOfC qual (defScope st__law_spoiled) s.heap.objs.size f cdv)) (cxOf (L2N.CX P w) P w K mg base n__law_spoiled qual (defScope st__law_spoiled) f cdv A outer s H E).env (cxOf (L2N.CX P w) P w K mg base n__law_spoiled qual (defScope st__law_spoiled) f cdv A outer s H E).xe := passes_of rfl
  exact (evs_cons (evs_set (i := 3) sN rfl (loc_of rfl) (.inl rfl) (ev_popAt (ev_var (i := 1) rfl (vis_of rfl) rfl rfl) ev_int rfl rfl rfl) rfl)
  (evs_cons (evs_if (EvTs.t (evts_and (evt_cmp hu (ev_var (i := 2) rfl (vis_of rfl) rfl rfl) ev_int rfl) (evts_and (evt_plain (ev_isi (T := .tuple) rfl T.b_isinstance rfl T.b_tuple (ev_var (i := 0) rfl (vis_of rfl) rfl rfl) rfl) rfl) (evts_and (evt_cmp hu (ev_var (i := 0) rfl (vis_of rfl) rfl rfl) (ev_tup eva_nil) rfl) (evts_and (evt_cmp hu (ev_bin (ev_var (i := 3) rfl (vis_of rfl) rfl rfl) ev_int) ev_int rfl) evts_and_nil)))))
  (evs_cons (evs_set (i := 4) sN rfl (loc_of rfl) (.inl rfl) (ev_bin (ev_bin (ev_var (i := 3) rfl (vis_of rfl) rfl rfl) ev_int) (ev_blt rfl T.b_len (blt_boot .len) (blt_kind .len) (blt_ok rfl .len) (eva_cons (ev_var (i := 0) rfl (vis_of rfl) rfl rfl) eva_nil rfl) rfl (blt_name .len).1 (blt_name .len).2)) rfl)
  (evs_one (evs_ret (ev_bin (ev_bin (ev_cut (ev_var (i := 0) rfl (vis_of rfl) rfl rfl) evo_none (evo_some (ev_var (i := 4) rfl (vis_of rfl) rfl rfl))) (ev_tup (eva_cons (ev_call tk rfl (c__law_spoiled.ok (hr.mono (by omega))) (eva_cons (ev_idx (ev_var (i := 0) rfl (vis_of rfl) rfl rfl) (ev_var (i := 4) rfl (vis_of rfl) rfl rfl) rfl) (eva_cons (ev_var (i := 1) rfl (vis_of rfl) rfl rfl) (eva_cons (ev_bin (ev_var (i := 2) rfl (vis_of rfl) rfl rfl) ev_int) eva_nil rfl) rfl) rfl) rfl rfl) eva_nil rfl))) (ev_cut (ev_var (i := 0) rfl (vis_of rfl) rfl rfl) (evo_some (ev_bin (ev_var (i := 4) rfl (vis_of rfl) rfl rfl) ev_int)) evo_none)))))
  evs_nil)
  (evs_one (evs_ret (ev_call tk rfl (c__law_odd.ok (hr.mono (by omega))) (eva_cons (ev_var (i := 0) rfl (vis_of rfl) rfl rfl) (eva_cons (ev_bin (ev_var (i := 3) rfl (vis_of rfl) rfl rfl) ev_int) eva_nil rfl) rfl) rfl rfl)))))
theorem s__law_form : FnScope n__law_form ["_law_thing", "_law_words"] (defScope st__law_form) := ⟨rfl, rfl, rfl, by decide +kernel, rfl, by decide +kernel, by decide +kernel⟩
theorem ok__law_form {qual : Str} {f : Addr} {fd : FuncData} (F : Fun K "_law_form" qual st__law_form f fd) (T : Txt K w mg)  : FnG P w K mg base (L2N.CX P w) 1 f fd ["_law_thing", "_law_words"] (spOf K mg 2 f__law_form) := by
  refine fn_ok (k := 0) F s__law_form fun cdv A outer s H E hr => ?_
  have hu := hr.units
  have sN := s__law_form.nd
  have tk : L2N.Takes (cxOf (L2N.CX P w) P w K mg base n__law_form qual (defScope st__law_form) f cdv A outer s H E) (fun cls dx _ H => E cls dx H) := L2N.takes_of rfl rfl rfl rfl
  have pw : PassesOwn (model P w) (A.deeper (envOfC qual (defScope st__law_form) s.heap.objs.size f cdv)) (cxOf (L2N.CX P w) P w K mg base n__law_form qual (defScope st__law_form) f cdv A outer s H E).env (cxOf (L2N.CX P w) P w K mg base n__law_form qual (defScope st__law_form) f cdv A outer s H E).xe := passes_of rfl
  exact (evs_cons (evs_if (EvTs.t (evts_or (evt_not (evt_plain (ev_isi (T := .tuple) rfl T.b_isinstance rfl T.b_tuple (ev_var (i := 0) rfl (vis_of rfl) rfl rfl) rfl) rfl)) (evts_or (evt_cmp hu (ev_var (i := 0) rfl (vis_of rfl) rfl rfl) (ev_tup eva_nil) rfl) (evts_or (evt_not (evt_plain (ev_isi (T := .str) rfl T.b_isinstance rfl T.b_str (ev_idx (ev_var (i := 0) rfl (vis_of rfl) rfl rfl) ev_int rfl) rfl) rfl)) (evts_or (evt_dnotin hu (ev_idx (ev_var (i := 0) rfl (vis_of rfl) rfl rfl) ev_int rfl) (ev_var (i := 1) rfl (vis_of rfl) rfl rfl) rfl) evts_or_nil)))))
  (evs_one (evs_ret ev_bl))
  evs_nil)
  (evs_one (evs_ret (ev_cmp hu (ev_blt rfl T.b_len (blt_boot .len) (blt_kind .len) (blt_ok rfl .len) (eva_cons (ev_var (i := 0) rfl (vis_of rfl) rfl rfl) eva_nil rfl) rfl (blt_name .len).1 (blt_name .len).2) (ev_dget hu (ev_var (i := 1) rfl (vis_of rfl) rfl rfl) (ev_idx (ev_var (i := 0) rfl (vis_of rfl) rfl rfl) ev_int rfl) rfl) rfl))))
theorem s__law_whole : FnScope n__law_whole ["_law_thing", "_law_low", "_law_high"] (defScope st__law_whole) := ⟨rfl, rfl, rfl, by decide +kernel, rfl, by decide +kernel, by decide +kernel⟩
theorem ok__law_whole {qual : Str} {f : Addr} {fd : FuncData} (F : Fun K "_law_whole" qual st__law_whole f fd) (T : Txt K w mg)  : FnG P w K mg base (L2N.CX P w) 1 f fd ["_law_thing", "_law_low", "_law_high"] (spOf K mg 3 f__law_whole) := by
  refine fn_ok (k := 0) F s__law_whole fun cdv A outer s H E hr => ?_
  have hu := hr.units
  have sN := s__law_whole.nd
  have tk : L2N.Takes (cxOf (L2N.CX P w) P w K mg base n__law_whole qual (defScope st__law_whole) f cdv A outer s H E) (fun cls dx _ H => E cls dx H) := L2N.takes_of rfl rfl rfl rfl
  have pw : PassesOwn (model P w) (A.deeper (envOfC qual (defScope st__law_whole) s.heap.objs.size f cdv)) (cxOf (L2N.CX P w) P w K mg base n__law_whole qual (defScope st__law_whole) f cdv A outer s H E).env (cxOf (L2N.CX P w) P w K mg base n__law_whole qual (defScope st__law_whole) f cdv A outer s H E).xe := passes_of rfl
  exact (evs_cons (evs_if (EvTs.t (evts_or (evt_not (evt_plain (ev_isi (T := .int) rfl T.b_isinstance rfl T.b_int (ev_var (i := 0) rfl (vis_of rfl) rfl rfl) rfl) rfl)) (evts_or (evt_plain (ev_isi (T := .bool) rfl T.b_isinstance rfl T.b_bool (ev_var (i := 0) rfl (vis_of rfl) rfl rfl) rfl) rfl) evts_or_nil)))
  (evs_one (evs_ret ev_bl))
  evs_nil)
  (evs_one (evs_ret (ev_and (ev_or (ev_cmp hu (ev_var (i := 1) rfl (vis_of rfl) rfl rfl) ev_non rfl) (ev_one (ev_cmp hu (ev_var (i := 0) rfl (vis_of rfl) rfl rfl) (ev_var (i := 1) rfl (vis_of rfl) rfl rfl) rfl))) (ev_one (ev_or (ev_cmp hu (ev_var (i := 2) rfl (vis_of rfl) rfl rfl) ev_non rfl) (ev_one (ev_cmp hu (ev_var (i := 0) rfl (vis_of rfl) rfl rfl) (ev_var (i := 2) rfl (vis_of rfl) rfl rfl) rfl))))))))
theorem s__law_bound : FnScope n__law_bound ["_law_thing", "_law_low", "_law_high"] (defScope st__law_bound) := ⟨rfl, rfl, rfl, by decide +kernel, rfl, by decide +kernel, by decide +kernel⟩
theorem ok__law_bound {qual : Str} {f : Addr} {fd : FuncData} (F : Fun K "_law_bound" qual st__law_bound f fd) (T : Txt K w mg) (c__law_whole : Cal P w K mg base "_law_whole" 3 f__law_whole 1) : FnG P w K mg base (L2N.CX P w) 2 f fd ["_law_thing", "_law_low", "_law_high"] (spOf K mg 3 f__law_bound) := by
  refine fn_ok (k := 1) F s__law_bound fun cdv A outer s H E hr => ?_
  have hu := hr.units
  have sN := s__law_bound.nd
  have tk : L2N.Takes (cxOf (L2N.CX P w) P w K mg base n__law_bound qual (defScope st__law_bound) f cdv A outer s H E) (fun cls dx _ H => E cls dx H) := L2N.takes_of rfl rfl rfl rfl
  have pw : PassesOwn (model P w) (A.deeper (envOfC qual (defScope st__law_bound) s.heap.objs.size f cdv)) (cxOf (L2N.CX P w) P w K mg base n__law_bound qual (defScope st__law_bound) f cdv A outer s H E).env (cxOf (L2N.CX P w) P w K mg base n__law_bound qual (defScope st__law_bound) f cdv A outer s H E).xe := passes_of rfl
  exact (evs_one (evs_ret (ev_or (ev_cmp hu (ev_var (i := 0) rfl (vis_of rfl) rfl rfl) ev_non rfl) (ev_one (ev_call tk rfl (c__law_whole.ok (hr.mono (by decide))) (eva_cons (ev_var (i := 0) rfl (vis_of rfl) rfl rfl) (eva_cons (ev_var (i := 1) rfl (vis_of rfl) rfl rfl) (eva_cons (ev_var (i := 2) rfl (vis_of rfl) rfl rfl) eva_nil rfl) rfl) rfl) rfl rfl)))))
theorem s__law_hand : FnScope n__law_hand ["_law_thing"] (defScope st__law_hand) := ⟨rfl, rfl, rfl, by decide +kernel, rfl, by decide +kernel, by decide +kernel⟩
theorem ok__law_hand {qual : Str} {f : Addr} {fd : FuncData} (F : Fun K "_law_hand" qual st__law_hand f fd) (T : Txt K w mg) (hmg : mg "_law_hand" = some (.ref f)) (hb : Binds K fd ["_law_thing"] []) (c__law_form : Cal P w K mg base "_law_form" 2 f__law_form 1) (c__law_whole : Cal P w K mg base "_law_whole" 3 f__law_whole 1) (c__law_bound : Cal P w K mg base "_law_bound" 3 f__law_bound 2) : ∀ k, FnG P w K mg base (L2N.CX P w) (2 + k) f fd ["_law_thing"] (spOf K mg 1 (f__law_hand k)) := by
  intro k
  induction k with
  | zero => exact fn_fail
  | succ k ih =>
  refine fn_ok (k := 2 + k) F s__law_hand fun cdv A outer s H E hr => ?_
  have c__law_hand : Cal P w K mg base "_law_hand" 1 (f__law_hand k) (2 + k) := ⟨⟨f, fd, _, hmg, F.kp, hb, ih⟩⟩
  have hu := hr.units
  have sN := s__law_hand.nd
  have tk : L2N.Takes (cxOf (L2N.CX P w) P w K mg base n__law_hand qual (defScope st__law_hand) f cdv A outer s H E) (fun cls dx _ H => E cls dx H) := L2N.takes_of rfl rfl rfl rfl
  have pw : PassesOwn (model P w) (A.deeper (envOfC qual (defScope st__law_hand) s.heap.objs.size f cdv)) (cxOf (L2N.CX P w) P w K mg base n__law_hand qual (defScope st__law_hand) f cdv A outer s H E).env (cxOf (L2N.CX P w) P w K mg base n__law_hand qual (defScope st__law_hand) f cdv A outer s H E).xe := passes_of rfl
  exact (evs_cons (evs_set (i := 1) sN rfl (loc_of rfl) (.inl rfl) (ev_dict (evd_cons ev_int (evd_cons ev_int (evd_cons ev_int (evd_cons ev_int (evd_cons ev_int (evd_cons ev_int (evd_cons ev_int (evd_cons ev_int (evd_cons ev_int evd_nil))))))))) (fun z => nomatch z) (by decide) (by decide +kernel)) rfl)
  (evs_cons (evs_if (evt_not (evt_plain (ev_call tk rfl (c__law_form.ok (hr.mono (by omega))) (eva_cons (ev_var (i := 0) rfl (vis_of rfl) rfl rfl) (eva_cons (ev_var (i := 1) rfl (vis_of rfl) rfl rfl) eva_nil rfl) rfl) rfl rfl) rfl))
  (evs_one (evs_ret ev_bl))
  evs_nil)
  (evs_cons (evs_if (evt_cmp hu (ev_idx (ev_var (i := 0) rfl (vis_of rfl) rfl rfl) ev_int rfl) (ev_tup (eva_cons ev_str (eva_cons ev_str (eva_cons ev_str eva_nil rfl) rfl) rfl)) rfl)
  (evs_one (evs_ret (ev_cmp hu (ev_comp (own := [("_law_one", 2)]) rfl sN (evi_val (ev_cut (ev_var (i := 0) rfl (vis_of rfl) rfl rfl) (evo_some ev_int) evo_none)) (blkOk_by (show blkC n__law_hand (defScope st__law_hand) _ _ = true by decide +kernel)) (fun s H C cl fp => (evg_name (i := 2) sN rfl (loc_of rfl) (by first | exact .inr rfl | exact .inl rfl))) (fun s H C cl fp => (evtf_one (evt_not (evt_plain (ev_call takes0 rfl (c__law_hand.ok (hr.mono (by omega))) (eva_cons (ev_var (i := 2) rfl (vis_of rfl) rfl rfl) eva_nil rfl) rfl rfl) rfl)))) (fun s H C cl fp => (ev_var (i := 2) rfl (vis_of rfl) rfl rfl)) rfl (by decide)) (ev_lst eva_nil) rfl)))
  evs_nil)
  (evs_cons (evs_if (evt_cmp hu (ev_idx (ev_var (i := 0) rfl (vis_of rfl) rfl rfl) ev_int rfl) ev_str rfl)
  (evs_one (evs_ret (ev_call tk rfl (c__law_whole.ok (hr.mono (by omega))) (eva_cons (ev_idx (ev_var (i := 0) rfl (vis_of rfl) rfl rfl) ev_int rfl) (eva_cons ev_int (eva_cons ev_int eva_nil rfl) rfl) rfl) rfl rfl)))
  evs_nil)
  (evs_cons (evs_if (evt_cmp hu (ev_idx (ev_var (i := 0) rfl (vis_of rfl) rfl rfl) ev_int rfl) ev_str rfl)
  (evs_one (evs_ret (ev_and (ev_call tk rfl (c__law_whole.ok (hr.mono (by omega))) (eva_cons (ev_idx (ev_var (i := 0) rfl (vis_of rfl) rfl rfl) ev_int rfl) (eva_cons ev_int (eva_cons ev_int eva_nil rfl) rfl) rfl) rfl rfl) (ev_and (ev_call tk rfl (c__law_bound.ok (hr.mono (by omega))) (eva_cons (ev_idx (ev_var (i := 0) rfl (vis_of rfl) rfl rfl) ev_int rfl) (eva_cons ev_non (eva_cons ev_non eva_nil rfl) rfl) rfl) rfl rfl) (ev_one (ev_call tk rfl (c__law_bound.ok (hr.mono (by omega))) (eva_cons (ev_idx (ev_var (i := 0) rfl (vis_of rfl) rfl rfl) ev_int rfl) (eva_cons ev_non (eva_cons ev_non eva_nil rfl) rfl) rfl) rfl rfl))))))
  evs_nil)
  (evs_cons (evs_if (evt_cmp hu (ev_idx (ev_var (i := 0) rfl (vis_of rfl) rfl rfl) ev_int rfl) ev_str rfl)
  (evs_one (evs_ret (ev_call tk rfl (c__law_whole.ok (hr.mono (by omega))) (eva_cons (ev_idx (ev_var (i := 0) rfl (vis_of rfl) rfl rfl) ev_int rfl) (eva_cons ev_int (eva_cons ev_int eva_nil rfl) rfl) rfl) rfl rfl)))
  evs_nil)
  (evs_one (evs_ret (ev_or (ev_cmp hu (ev_idx (ev_var (i := 0) rfl (vis_of rfl) rfl rfl) ev_int rfl) ev_str rfl) (ev_one (ev_and (ev_call tk rfl (c__law_whole.ok (hr.mono (by omega))) (eva_cons (ev_idx (ev_var (i := 0) rfl (vis_of rfl) rfl rfl) ev_int rfl) (eva_cons ev_int (eva_cons ev_int eva_nil rfl) rfl) rfl) rfl rfl) (ev_one (ev_call tk rfl (c__law_whole.ok (hr.mono (by omega))) (eva_cons (ev_idx (ev_var (i := 0) rfl (vis_of rfl) rfl rfl) ev_int rfl) (eva_cons ev_int (eva_cons ev_int eva_nil rfl) rfl) rfl) rfl rfl)))))))))))))
theorem s__law_is_test : FnScope n__law_is_test ["_law_thing", "_law_roles"] (defScope st__law_is_test) := ⟨rfl, rfl, rfl, by decide +kernel, rfl, by decide +kernel, by decide +kernel⟩
theorem ok__law_is_test {qual : Str} {f : Addr} {fd : FuncData} (F : Fun K "_law_is_test" qual st__law_is_test f fd) (T : Txt K w mg) (hmg : mg "_law_is_test" = some (.ref f)) (hb : Binds K fd ["_law_thing", "_law_roles"] []) (c__law_form : Cal P w K mg base "_law_form" 2 f__law_form 1) (c__law_whole : Cal P w K mg base "_law_whole" 3 f__law_whole 1) (c__law_bound : Cal P w K mg base "_law_bound" 3 f__law_bound 2) (c__law_hand : Cal P w K mg base "_law_hand" 1 (f__law_hand 37) 39) : ∀ k, FnG P w K mg base (L2N.CX P w) (39 + k) f fd ["_law_thing", "_law_roles"] (spOf K mg 2 (f__law_is_test k)) := by
  intro k
  induction k with
  | zero => exact fn_fail
  | succ k ih =>
  refine fn_ok (k := 39 + k) F s__law_is_test fun cdv A outer s H E hr => ?_
  have c__law_is_test : Cal P w K mg base "_law_is_test" 2 (f__law_is_test k) (39 + k) := ⟨⟨f, fd, _, hmg, F.kp, hb, ih⟩⟩
  have hu := hr.units
  have sN := s__law_is_test.nd
  have tk : L2N.Takes (cxOf (L2N.CX P w) P w K mg base n__law_is_test qual (defScope st__law_is_test) f cdv A outer s H E) (fun cls dx _ H => E cls dx H) := L2N.takes_of rfl rfl rfl rfl
  have pw : PassesOwn (model P w) (A.deeper (envOfC qual (defScope st__law_is_test) s.heap.objs.size f cdv)) (cxOf (L2N.CX P w) P w K mg base n__law_is_test qual (defScope st__law_is_test) f cdv A outer s H E).env (cxOf (L2N.CX P w) P w K mg base n__law_is_test qual (defScope st__law_is_test) f cdv A outer s H E).xe := passes_of rfl
  exact (evs_cons (evs_if (evt_not (evt_plain (ev_call tk rfl (c__law_form.ok (hr.mono (by omega))) (eva_cons (ev_var (i := 0) rfl (vis_of rfl) rfl rfl) (eva_cons (ev_dict (evd_cons ev_int (evd_cons ev_int (evd_cons ev_int (evd_cons ev_int (evd_cons ev_int evd_nil))))) (fun z => nomatch z) (by decide) (by decide +kernel)) eva_nil rfl) rfl) rfl rfl) rfl))
  (evs_one (evs_ret ev_bl))
  evs_nil)
  (evs_cons (evs_if (evt_cmp hu (ev_idx (ev_var (i := 0) rfl (vis_of rfl) rfl rfl) ev_int rfl) ev_str rfl)
  (evs_one (evs_ret (ev_and (ev_call tk rfl (c__law_whole.ok (hr.mono (by omega))) (eva_cons (ev_idx (ev_var (i := 0) rfl (vis_of rfl) rfl rfl) ev_int rfl) (eva_cons ev_int (eva_cons ev_int eva_nil rfl) rfl) rfl) rfl rfl) (ev_and (ev_call tk rfl (c__law_bound.ok (hr.mono (by omega))) (eva_cons (ev_idx (ev_var (i := 0) rfl (vis_of rfl) rfl rfl) ev_int rfl) (eva_cons ev_int (eva_cons ev_non eva_nil rfl) rfl) rfl) rfl rfl) (ev_one (ev_call tk rfl (c__law_bound.ok (hr.mono (by omega))) (eva_cons (ev_idx (ev_var (i := 0) rfl (vis_of rfl) rfl rfl) ev_int rfl) (eva_cons ev_int (eva_cons ev_non eva_nil rfl) rfl) rfl) rfl rfl))))))
  evs_nil)
  (evs_cons (evs_if (evt_cmp hu (ev_idx (ev_var (i := 0) rfl (vis_of rfl) rfl rfl) ev_int rfl) ev_str rfl)
  (evs_cons (evs_set (i := 2) sN rfl (loc_of rfl) (.inl rfl) (ev_and (ev_call tk rfl (c__law_whole.ok (hr.mono (by omega))) (eva_cons (ev_idx (ev_var (i := 0) rfl (vis_of rfl) rfl rfl) ev_int rfl) (eva_cons ev_int (eva_cons (ev_bin (ev_var (i := 1) rfl (vis_of rfl) rfl rfl) ev_int) eva_nil rfl) rfl) rfl) rfl rfl) (ev_one (ev_call tk rfl (c__law_hand.ok (hr.mono (by omega))) (eva_cons (ev_idx (ev_var (i := 0) rfl (vis_of rfl) rfl rfl) ev_int rfl) eva_nil rfl) rfl rfl))) rfl)
  (evs_one (evs_ret (ev_and (ev_var (i := 2) rfl (vis_of rfl) rfl rfl) (ev_and (ev_call tk rfl (c__law_bound.ok (hr.mono (by omega))) (eva_cons (ev_idx (ev_var (i := 0) rfl (vis_of rfl) rfl rfl) ev_int rfl) (eva_cons ev_int (eva_cons ev_int eva_nil rfl) rfl) rfl) rfl rfl) (ev_one (ev_call tk rfl (c__law_bound.ok (hr.mono (by omega))) (eva_cons (ev_idx (ev_var (i := 0) rfl (vis_of rfl) rfl rfl) ev_int rfl) (eva_cons ev_int (eva_cons ev_int eva_nil rfl) rfl) rfl) rfl rfl)))))))
  evs_nil)
  (evs_one (evs_ret (ev_cmp hu (ev_comp (own := [("_law_one", 3)]) rfl sN (evi_val (ev_cut (ev_var (i := 0) rfl (vis_of rfl) rfl rfl) (evo_some ev_int) evo_none)) (blkOk_by (show blkC n__law_is_test (defScope st__law_is_test) _ _ = true by decide +kernel)) (fun s H C cl fp => (evg_name (i := 3) sN rfl (loc_of rfl) (by first | exact .inr rfl | exact .inl rfl))) (fun s H C cl fp => (evtf_one (evt_not (evt_plain (ev_call takes0 rfl (c__law_is_test.ok (hr.mono (by omega))) (eva_cons (ev_var (i := 3) rfl (vis_of rfl) rfl rfl) (eva_cons (ev_var (i := 1) rfl (vis_of rfl) rfl rfl) eva_nil rfl) rfl) rfl rfl) rfl)))) (fun s H C cl fp => (ev_var (i := 3) rfl (vis_of rfl) rfl rfl)) rfl (by decide)) (ev_lst eva_nil) rfl))))))
theorem s__law_is_claim : FnScope n__law_is_claim ["_law_thing", "_law_roles"] (defScope st__law_is_claim) := ⟨rfl, rfl, rfl, by decide +kernel, rfl, by decide +kernel, by decide +kernel⟩
theorem ok__law_is_claim {qual : Str} {f : Addr} {fd : FuncData} (F : Fun K "_law_is_claim" qual st__law_is_claim f fd) (T : Txt K w mg) (c__law_form : Cal P w K mg base "_law_form" 2 f__law_form 1) (c__law_is_test : Cal P w K mg base "_law_is_test" 2 (f__law_is_test 37) 76) : FnG P w K mg base (L2N.CX P w) 77 f fd ["_law_thing", "_law_roles"] (spOf K mg 2 f__law_is_claim) := by
  refine fn_ok (k := 76) F s__law_is_claim fun cdv A outer s H E hr => ?_
  have hu := hr.units
  have sN := s__law_is_claim.nd
  have tk : L2N.Takes (cxOf (L2N.CX P w) P w K mg base n__law_is_claim qual (defScope st__law_is_claim) f cdv A outer s H E) (fun cls dx _ H => E cls dx H) := L2N.takes_of rfl rfl rfl rfl
  have pw : PassesOwn (model P w) (A.deeper (envOfC qual (defScope st__law_is_claim) s.heap.objs.size f cdv)) (cxOf (L2N.CX P w) P w K mg base n__law_is_claim qual (defScope st__law_is_claim) f cdv A outer s H E).env (cxOf (L2N.CX P w) P w K mg base n__law_is_claim qual (defScope st__law_is_claim) f cdv A outer s H E).xe := passes_of rfl
  exact (evs_cons (evs_if (evt_not (evt_plain (ev_call tk rfl (c__law_form.ok (hr.mono (by decide))) (eva_cons (ev_var (i := 0) rfl (vis_of rfl) rfl rfl) (eva_cons (ev_dict (evd_cons ev_int (evd_cons ev_int (evd_cons ev_int evd_nil))) (fun z => nomatch z) (by decide) (by decide +kernel)) eva_nil rfl) rfl) rfl rfl) rfl))
  (evs_one (evs_ret ev_bl))
  evs_nil)
  (evs_one (evs_ret (ev_cmp hu (ev_comp (own := [("_law_one", 2)]) rfl sN (evi_val (ev_cut (ev_var (i := 0) rfl (vis_of rfl) rfl rfl) (evo_some ev_int) evo_none)) (blkOk_by (show blkC n__law_is_claim (defScope st__law_is_claim) _ _ = true by decide +kernel)) (fun s H C cl fp => (evg_name (i := 2) sN rfl (loc_of rfl) (by first | exact .inr rfl | exact .inl rfl))) (fun s H C cl fp => (evtf_one (evt_not (evt_plain (ev_call takes0 rfl (c__law_is_test.ok (hr.mono (by decide))) (eva_cons (ev_var (i := 2) rfl (vis_of rfl) rfl rfl) (eva_cons (ev_var (i := 1) rfl (vis_of rfl) rfl rfl) eva_nil rfl) rfl) rfl rfl) rfl)))) (fun s H C cl fp => (ev_var (i := 2) rfl (vis_of rfl) rfl rfl)) rfl (by decide)) (ev_lst eva_nil) rfl))))
theorem s__law_refused : FnScope n__law_refused ["_law_program", "_law_thing"] (defScope st__law_refused) := ⟨rfl, rfl, rfl, by decide +kernel, rfl, by decide +kernel, by decide +kernel⟩
theorem ok__law_refused {qual : Str} {f : Addr} {fd : FuncData} (F : Fun K "_law_refused" qual st__law_refused f fd) (T : Txt K w mg) (c_look_over_claim : Cal P w K mg base "look_over_claim" 2 f_look_over_claim 226) : FnG P w K mg base (L2N.CX P w) 227 f fd ["_law_program", "_law_thing"] (spOf K mg 2 f__law_refused) := by
  refine fn_ok (k := 226) F s__law_refused fun cdv A outer s H E hr => ?_
  have hu := hr.units
  have sN := s__law_refused.nd
  have tk : L2N.Takes (cxOf (L2N.CX P w) P w K mg base n__law_refused qual (defScope st__law_refused) f cdv A outer s H E) (fun cls dx _ H => E cls dx H) := L2N.takes_of rfl rfl rfl rfl
  have pw : PassesOwn (model P w) (A.deeper (envOfC qual (defScope st__law_refused) s.heap.objs.size f cdv)) (cxOf (L2N.CX P w) P w K mg base n__law_refused qual (defScope st__law_refused) f cdv A outer s H E).env (cxOf (L2N.CX P w) P w K mg base n__law_refused qual (defScope st__law_refused) f cdv A outer s H E).xe := passes_of rfl
  exact (evs_cons (evs_set (i := 2) sN rfl (loc_of rfl) (.inl rfl) ev_bl rfl)
  (evs_cons (evs_tryAsT (i := 3) rfl rfl sN rfl rfl rfl rfl T.h_LetterError tk (fun W pn xe tk pw => (evs_one (evs_expr (ev_call tk rfl (c_look_over_claim.ok (hr.mono (by decide))) (eva_cons (ev_var (i := 0) rfl (vis_of rfl) rfl rfl) (eva_cons (ev_var (i := 1) rfl (vis_of rfl) rfl rfl) eva_nil rfl) rfl) rfl rfl) rfl))) (fun a_ oe_ d_ pn_ c_ D_ hc_ hz_ hf_ ho_ => (evs_cons (evs_set (i := 4) sN rfl (loc_of rfl) (.inl rfl) (ev_lst (eva_cons (ev_isE (i := 3) (l := is_NoStep) hc_ hz_ hf_ rfl (vis_of rfl) rfl rfl rfl T.b_isinstance rfl T.i_NoStep rfl) (eva_cons (ev_isE (i := 3) (l := is_NoProgram) hc_ hz_ hf_ rfl (vis_of rfl) rfl rfl rfl T.b_isinstance rfl T.i_NoProgram rfl) (eva_cons (ev_isE (i := 3) (l := is_NoMove) hc_ hz_ hf_ rfl (vis_of rfl) rfl rfl rfl T.b_isinstance rfl T.i_NoMove rfl) (eva_cons (ev_isE (i := 3) (l := is_NoText) hc_ hz_ hf_ rfl (vis_of rfl) rfl rfl rfl T.b_isinstance rfl T.i_NoText rfl) eva_nil rfl) rfl) rfl) rfl)) rfl)
  (evs_cons (evs_set (i := 4) sN rfl (loc_of rfl) (.inl rfl) (ev_bin (ev_var (i := 4) rfl (vis_of rfl) rfl rfl) (ev_lst (eva_cons (ev_isE (i := 3) (l := is_NoRenaming) hc_ hz_ hf_ rfl (vis_of rfl) rfl rfl rfl T.b_isinstance rfl T.i_NoRenaming rfl) (eva_cons (ev_isE (i := 3) (l := is_NoTalk) hc_ hz_ hf_ rfl (vis_of rfl) rfl rfl rfl T.b_isinstance rfl T.i_NoTalk rfl) (eva_cons (ev_isE (i := 3) (l := is_CantKnow) hc_ hz_ hf_ rfl (vis_of rfl) rfl rfl rfl T.b_isinstance rfl T.i_CantKnow rfl) eva_nil rfl) rfl) rfl))) rfl)
  (evs_cons (evs_expr (ev_app (ev_var (i := 4) rfl (vis_of rfl) rfl rfl) (ev_isE (i := 3) (l := is_NoLine) hc_ hz_ hf_ rfl (vis_of rfl) rfl rfl rfl T.b_isinstance rfl T.i_NoLine rfl) rfl rfl rfl) rfl)
  (evs_one (evs_set (i := 2) sN rfl (loc_of rfl) (.inl rfl) (ev_and (ev_isE (i := 3) (l := is_NoClaim) hc_ hz_ hf_ rfl (vis_of rfl) rfl rfl rfl T.b_isinstance rfl T.i_NoClaim rfl) (ev_and (ev_isE (i := 3) (l := is_ValueError) hc_ hz_ hf_ rfl (vis_of rfl) rfl rfl rfl T.b_isinstance rfl T.i_ValueError rfl) (ev_one (ev_cmp hu ev_bl (ev_var (i := 4) rfl (vis_of rfl) rfl rfl) rfl)))) rfl)))))))
  (evs_one (evs_ret (ev_var (i := 2) rfl (vis_of rfl) rfl rfl)))))
theorem s_law : FnScope n_law ["_law_script"] (defScope st_law) := ⟨rfl, rfl, rfl, by decide +kernel, rfl, by decide +kernel, by decide +kernel⟩
theorem ok_law {qual : Str} {f : Addr} {fd : FuncData} (F : Fun K "law" qual st_law f fd) (T : Txt K w mg) (c__law_cell_at : Cal P w K mg base "_law_cell_at" 2 f__law_cell_at 1) (c__law_claim : Cal P w K mg base "_law_claim" 2 f__law_claim 76) (c_look_over_claim : Cal P w K mg base "look_over_claim" 2 f_look_over_claim 226) (c__law_turned : Cal P w K mg base "_law_turned" 2 f__law_turned 1) (c__law_spoiled : Cal P w K mg base "_law_spoiled" 3 (f__law_spoiled 37) 38) (c__law_draws : Cal P w K mg base "_law_draws" 3 f__law_draws 2) (c__law_is_claim : Cal P w K mg base "_law_is_claim" 2 f__law_is_claim 77) (c__law_refused : Cal P w K mg base "_law_refused" 2 f__law_refused 227) : FnG P w K mg base (L2N.CX P w) 228 f fd ["_law_script"] (spOf K mg 1 f_law) := by
  refine fn_ok (k := 227) F s_law fun cdv A outer s H E hr => ?_
  have hu := hr.units
  have sN := s_law.nd
  have tk : L2N.Takes (cxOf (L2N.CX P w) P w K mg base n_law qual (defScope st_law) f cdv A outer s H E) (fun cls dx _ H => E cls dx H) := L2N.takes_of rfl rfl rfl rfl
  have pw : PassesOwn (model P w) (A.deeper (envOfC qual (defScope st_law) s.heap.objs.size f cdv)) (cxOf (L2N.CX P w) P w K mg base n_law qual (defScope st_law) f cdv A outer s H E).env (cxOf (L2N.CX P w) P w K mg base n_law qual (defScope st_law) f cdv A outer s H E).xe := passes_of rfl
  exact (evs_cons (evs_set (i := 1) sN rfl (loc_of rfl) (.inl rfl) (ev_bin ev_int (ev_bin (ev_call tk rfl (c__law_cell_at.ok (hr.mono (by decide))) (eva_cons (ev_var (i := 0) rfl (vis_of rfl) rfl rfl) (eva_cons ev_int eva_nil rfl) rfl) rfl rfl) ev_int)) rfl)
  (evs_cons (evs_set (i := 2) sN rfl (loc_of rfl) (.inl rfl) (ev_tup (eva_cons ev_int (eva_cons (ev_tup (eva_cons ev_int (eva_cons ev_int eva_nil rfl) rfl)) (eva_cons (ev_bin (ev_tup (eva_cons (ev_tup eva_nil) eva_nil rfl)) (ev_var (i := 1) rfl (vis_of rfl) rfl rfl)) (eva_cons (ev_tup (eva_cons ev_int eva_nil rfl)) eva_nil rfl) rfl) rfl) rfl)) rfl)
  (evs_cons (evs_for pw rfl (evi_range3 rfl T.b_range ev_int (ev_blt rfl T.b_max (blt_boot .max) (blt_kind .max) (blt_ok rfl .max) (eva_cons ev_int (eva_cons (ev_blt rfl T.b_min (blt_boot .min) (blt_kind .min) (blt_ok rfl .min) (eva_cons ev_int (eva_cons (ev_blt rfl T.b_len (blt_boot .len) (blt_kind .len) (blt_ok rfl .len) (eva_cons (ev_var (i := 0) rfl (vis_of rfl) rfl rfl) eva_nil rfl) rfl (blt_name .len).1 (blt_name .len).2) eva_nil rfl) rfl) rfl (blt_name .min).1 (blt_name .min).2) eva_nil rfl) rfl) rfl (blt_name .max).1 (blt_name .max).2) ev_int rfl rfl rfl) (evg_name (i := 3) sN rfl (loc_of rfl) (.inl rfl))
  (evs_cons (evs_set (i := 4) sN rfl (loc_of rfl) (.inl rfl) (ev_call tk rfl (c__law_claim.ok (hr.mono (by decide))) (eva_cons (ev_call tk rfl (c__law_cell_at.ok (hr.mono (by decide))) (eva_cons (ev_var (i := 0) rfl (vis_of rfl) rfl rfl) (eva_cons (ev_var (i := 3) rfl (vis_of rfl) rfl rfl) eva_nil rfl) rfl) rfl rfl) (eva_cons (ev_var (i := 1) rfl (vis_of rfl) rfl rfl) eva_nil rfl) rfl) rfl rfl) rfl)
  (evs_cons (evs_if (evt_cmp hu (ev_call tk rfl (c_look_over_claim.ok (hr.mono (by decide))) (eva_cons (ev_var (i := 2) rfl (vis_of rfl) rfl rfl) (eva_cons (ev_var (i := 4) rfl (vis_of rfl) rfl rfl) eva_nil rfl) rfl) rfl rfl) ev_non rfl)
  (evs_one (evs_ret ev_bl))
  evs_nil)
  (evs_cons (evs_set (i := 5) sN rfl (loc_of rfl) (.inl rfl) (ev_call tk rfl (c__law_cell_at.ok (hr.mono (by decide))) (eva_cons (ev_var (i := 0) rfl (vis_of rfl) rfl rfl) (eva_cons (ev_bin (ev_var (i := 3) rfl (vis_of rfl) rfl rfl) ev_int) eva_nil rfl) rfl) rfl rfl) rfl)
  (evs_cons (evs_if (evt_cmp hu (ev_call tk rfl (c_look_over_claim.ok (hr.mono (by decide))) (eva_cons (ev_var (i := 2) rfl (vis_of rfl) rfl rfl) (eva_cons (ev_bin (ev_tup (eva_cons (ev_idx (ev_var (i := 4) rfl (vis_of rfl) rfl rfl) ev_int rfl) (eva_cons (ev_call tk rfl (c__law_turned.ok (hr.mono (by decide))) (eva_cons (ev_idx (ev_var (i := 4) rfl (vis_of rfl) rfl rfl) ev_int rfl) (eva_cons (ev_bin (ev_var (i := 5) rfl (vis_of rfl) rfl rfl) ev_int) eva_nil rfl) rfl) rfl rfl) eva_nil rfl) rfl)) (ev_cut (ev_var (i := 4) rfl (vis_of rfl) rfl rfl) (evo_some ev_int) evo_none)) eva_nil rfl) rfl) rfl rfl) ev_non rfl)
  (evs_one (evs_ret ev_bl))
  evs_nil)
  (evs_cons (evs_set (i := 6) sN rfl (loc_of rfl) (.inl rfl) (ev_idx (ev_lst (eva_cons ev_non (eva_cons ev_int (eva_cons ev_str (eva_cons (ev_lst eva_nil) (eva_cons (ev_tup eva_nil) (eva_cons (ev_lst (eva_cons ev_str (eva_cons (ev_idx (ev_var (i := 4) rfl (vis_of rfl) rfl rfl) ev_int rfl) eva_nil rfl) rfl)) (eva_cons (ev_tup (eva_cons (ev_var (i := 4) rfl (vis_of rfl) rfl rfl) eva_nil rfl)) (eva_cons (ev_idx (ev_var (i := 4) rfl (vis_of rfl) rfl rfl) ev_int rfl) eva_nil rfl) rfl) rfl) rfl) rfl) rfl) rfl) rfl)) (ev_bin (ev_bin (ev_var (i := 5) rfl (vis_of rfl) rfl rfl) ev_int) ev_int) rfl) rfl)
  (evs_cons (evs_if (evt_cmp hu (ev_bin (ev_var (i := 5) rfl (vis_of rfl) rfl rfl) ev_int) ev_int rfl)
  (evs_one (evs_set (i := 6) sN rfl (loc_of rfl) (.inl rfl) (ev_call tk rfl (c__law_spoiled.ok (hr.mono (by decide))) (eva_cons (ev_var (i := 4) rfl (vis_of rfl) rfl rfl) (eva_cons (ev_call tk rfl (c__law_draws.ok (hr.mono (by decide))) (eva_cons (ev_bin (ev_var (i := 5) rfl (vis_of rfl) rfl rfl) ev_int) (eva_cons ev_int (eva_cons (ev_bin ev_int ev_int) eva_nil rfl) rfl) rfl) rfl rfl) (eva_cons ev_int eva_nil rfl) rfl) rfl) rfl rfl) rfl))
  evs_nil)
  (evs_one (evs_if (evt_not (evt_plain (ev_call tk rfl (c__law_is_claim.ok (hr.mono (by decide))) (eva_cons (ev_var (i := 6) rfl (vis_of rfl) rfl rfl) (eva_cons (ev_var (i := 1) rfl (vis_of rfl) rfl rfl) eva_nil rfl) rfl) rfl rfl) rfl))
  (evs_one (evs_if (EvTs.t (evts_or (evt_not (evt_plain (ev_call tk rfl (c__law_refused.ok (hr.mono (by decide))) (eva_cons (ev_var (i := 2) rfl (vis_of rfl) rfl rfl) (eva_cons (ev_var (i := 6) rfl (vis_of rfl) rfl rfl) eva_nil rfl) rfl) rfl rfl) rfl)) (evts_or (evt_not (evt_plain (ev_call tk rfl (c__law_refused.ok (hr.mono (by decide))) (eva_cons (ev_var (i := 2) rfl (vis_of rfl) rfl rfl) (eva_cons (ev_var (i := 6) rfl (vis_of rfl) rfl rfl) eva_nil rfl) rfl) rfl rfl) rfl)) evts_or_nil)))
  (evs_one (evs_ret ev_bl))
  evs_nil))
  (evs_one (evs_if (evt_cmp hu (ev_call tk rfl (c_look_over_claim.ok (hr.mono (by decide))) (eva_cons (ev_var (i := 2) rfl (vis_of rfl) rfl rfl) (eva_cons (ev_var (i := 6) rfl (vis_of rfl) rfl rfl) eva_nil rfl) rfl) rfl rfl) ev_non rfl)
  (evs_one (evs_ret ev_bl))
  evs_nil)))))))))) rfl)
  (evs_one (evs_ret ev_bl)))))
end
theorem all_x {P : Program} {w : World} {K : PySem.W.Frag} {h : Heap} {mg : Str → Option Value} {fa : Addr} (X : K.In h) (G : h.Ns mainGlobals mg) (good : GoodT tabs f_law) (hfa : mg "law" = some (.ref fa)) (c : He.SaysX fcs fns tbs tfs (exD tfs (exB sms txs nks xcs kos kts oxs bss)) w h K) :
    ∃ fd : FuncData, (∀ (s : Shared) (v : Value), BindsTo s fd ⟨[v], []⟩ [("_law_script", v)]) ∧ ∀ base : Heap, K.In base → base.Ns mainGlobals mg → (∀ p ∈ tabs, LamX.TabB base mg (He.cT K p.1).1 (He.cT K p.1).2) → FnG P w K mg base (L2N.CX P w) 228 fa fd ["_law_script"] (spLawT K tabs) := by
  obtain ⟨fd1, FD1⟩ := c.t.d.def_ 0 (d := d__law_cell_at) rfl
  obtain ⟨fd2, FD2⟩ := c.t.d.def_ 1 (d := d__law_mixed) rfl
  obtain ⟨fd3, FD3⟩ := c.t.d.def_ 2 (d := d__law_draws) rfl
  obtain ⟨fd4, FD4⟩ := c.t.d.def_ 3 (d := d__law_bounds) rfl
  obtain ⟨fd5, FD5⟩ := c.t.d.def_ 4 (d := d__law_hand_test) rfl
  obtain ⟨fd6, FD6⟩ := c.t.d.def_ 5 (d := d__law_test) rfl
  obtain ⟨fd7, FD7⟩ := c.t.d.def_ 6 (d := d__law_claim) rfl
  obtain ⟨fd8, FD8⟩ := c.t.d.def_ 7 (d := d_is_told) rfl
  obtain ⟨fd9, FD9⟩ := c.t.d.def_ 8 (d := d_is_whole) rfl
  obtain ⟨fd10, FD10⟩ := c.t.d.def_ 9 (d := d_is_from) rfl
  obtain ⟨fd11, FD11⟩ := c.t.d.def_ 10 (d := d_is_bound) rfl
  obtain ⟨fd12, FD12⟩ := c.t.d.def_ 11 (d := d_is_box_test) rfl
  obtain ⟨fd13, FD13⟩ := c.t.d.def_ 12 (d := d_is_joined) rfl
  obtain ⟨fd14, FD14⟩ := c.t.d.def_ 13 (d := d_is_hand_test) rfl
  obtain ⟨fd15, FD15⟩ := c.t.d.def_ 14 (d := d_is_test) rfl
  obtain ⟨fd16, FD16⟩ := c.t.d.def_ 15 (d := d_look_over_claim) rfl
  obtain ⟨fd17, FD17⟩ := c.t.d.def_ 16 (d := d__law_turned) rfl
  obtain ⟨fd18, FD18⟩ := c.t.d.def_ 17 (d := d__law_odd) rfl
  obtain ⟨fd19, FD19⟩ := c.t.d.def_ 18 (d := d__law_spoiled) rfl
  obtain ⟨fd20, FD20⟩ := c.t.d.def_ 19 (d := d__law_form) rfl
  obtain ⟨fd21, FD21⟩ := c.t.d.def_ 20 (d := d__law_whole) rfl
  obtain ⟨fd22, FD22⟩ := c.t.d.def_ 21 (d := d__law_bound) rfl
  obtain ⟨fd23, FD23⟩ := c.t.d.def_ 22 (d := d__law_hand) rfl
  obtain ⟨fd24, FD24⟩ := c.t.d.def_ 23 (d := d__law_is_test) rfl
  obtain ⟨fd25, FD25⟩ := c.t.d.def_ 24 (d := d__law_is_claim) rfl
  obtain ⟨fd26, FD26⟩ := c.t.d.def_ 25 (d := d__law_refused) rfl
  obtain ⟨fd27, FD27⟩ := c.t.d.def_ 26 (d := d_law) rfl
  have e := hfa.symm.trans (He.glo_ok X G (c.t.d.fact 0 (f := .glo "law") rfl))
  cases e
  have gC_CantKnow_ := (He.glo_ok X G (c.t.d.fact 1 (f := .glo "CantKnow") rfl))
  have gC_LetterError_ := (He.glo_ok X G (c.t.d.fact 2 (f := .glo "LetterError") rfl))
  have gC_NoClaim_ := (He.glo_ok X G (c.t.d.fact 3 (f := .glo "NoClaim") rfl))
  have gC_NoLine_ := (He.glo_ok X G (c.t.d.fact 4 (f := .glo "NoLine") rfl))
  have gC_NoMove_ := (He.glo_ok X G (c.t.d.fact 5 (f := .glo "NoMove") rfl))
  have gC_NoProgram_ := (He.glo_ok X G (c.t.d.fact 6 (f := .glo "NoProgram") rfl))
  have gC_NoRenaming_ := (He.glo_ok X G (c.t.d.fact 7 (f := .glo "NoRenaming") rfl))
  have gC_NoStep_ := (He.glo_ok X G (c.t.d.fact 8 (f := .glo "NoStep") rfl))
  have gC_NoTalk_ := (He.glo_ok X G (c.t.d.fact 9 (f := .glo "NoTalk") rfl))
  have gC_NoText_ := (He.glo_ok X G (c.t.d.fact 10 (f := .glo "NoText") rfl))
  obtain ⟨xa_NoClaim, xb_NoClaim, xc_NoClaim, xd_NoClaim⟩ := He.exc_ok (c.t.d.fact 22 (f := .exc "NoClaim") rfl)
  have T : Txt K w mg := ⟨trivial, He.free_ok X G (c.t.d.fact 11 (f := .free "bool") rfl), He.free_ok X G (c.t.d.fact 12 (f := .free "int") rfl), He.free_ok X G (c.t.d.fact 13 (f := .free "isinstance") rfl), He.free_ok X G (c.t.d.fact 14 (f := .free "len") rfl), He.free_ok X G (c.t.d.fact 15 (f := .free "list") rfl), He.free_ok X G (c.t.d.fact 16 (f := .free "max") rfl), He.free_ok X G (c.t.d.fact 17 (f := .free "min") rfl), He.free_ok X G (c.t.d.fact 18 (f := .free "range") rfl), He.free_ok X G (c.t.d.fact 19 (f := .free "sorted") rfl), He.free_ok X G (c.t.d.fact 20 (f := .free "str") rfl), He.free_ok X G (c.t.d.fact 21 (f := .free "tuple") rfl), ⟨_, gC_NoClaim_, xa_NoClaim, xb_NoClaim, xc_NoClaim, xd_NoClaim⟩, ⟨_, gC_LetterError_, (ExmT.cons gC_NoClaim_ (He.exm_ok (c.t.d.fact 23 (f := .exm "NoClaim" "LetterError" true) rfl)) ExmT.nil)⟩, ⟨⟨.ref _, _, rfl, (fun u h => h), .inl gC_CantKnow_, (isT_cons gC_NoClaim_ (xcB_ok (exB_xc (exD_e c.more) (q := "NoClaim") 0 rfl)) (exB_ko (exD_e c.more) (q := ("NoClaim", "CantKnow", false)) 0 rfl) isT_nil)⟩⟩, ⟨⟨.ref _, _, rfl, (fun u h => h), .inl gC_NoClaim_, (isT_cons gC_NoClaim_ (xcB_ok (exB_xc (exD_e c.more) (q := "NoClaim") 0 rfl)) (exB_ko (exD_e c.more) (q := ("NoClaim", "NoClaim", true)) 1 rfl) isT_nil)⟩⟩, ⟨⟨.ref _, _, rfl, (fun u h => h), .inl gC_NoLine_, (isT_cons gC_NoClaim_ (xcB_ok (exB_xc (exD_e c.more) (q := "NoClaim") 0 rfl)) (exB_ko (exD_e c.more) (q := ("NoClaim", "NoLine", false)) 2 rfl) isT_nil)⟩⟩, ⟨⟨.ref _, _, rfl, (fun u h => h), .inl gC_NoMove_, (isT_cons gC_NoClaim_ (xcB_ok (exB_xc (exD_e c.more) (q := "NoClaim") 0 rfl)) (exB_ko (exD_e c.more) (q := ("NoClaim", "NoMove", false)) 3 rfl) isT_nil)⟩⟩, ⟨⟨.ref _, _, rfl, (fun u h => h), .inl gC_NoProgram_, (isT_cons gC_NoClaim_ (xcB_ok (exB_xc (exD_e c.more) (q := "NoClaim") 0 rfl)) (exB_ko (exD_e c.more) (q := ("NoClaim", "NoProgram", false)) 4 rfl) isT_nil)⟩⟩, ⟨⟨.ref _, _, rfl, (fun u h => h), .inl gC_NoRenaming_, (isT_cons gC_NoClaim_ (xcB_ok (exB_xc (exD_e c.more) (q := "NoClaim") 0 rfl)) (exB_ko (exD_e c.more) (q := ("NoClaim", "NoRenaming", false)) 5 rfl) isT_nil)⟩⟩, ⟨⟨.ref _, _, rfl, (fun u h => h), .inl gC_NoStep_, (isT_cons gC_NoClaim_ (xcB_ok (exB_xc (exD_e c.more) (q := "NoClaim") 0 rfl)) (exB_ko (exD_e c.more) (q := ("NoClaim", "NoStep", false)) 6 rfl) isT_nil)⟩⟩, ⟨⟨.ref _, _, rfl, (fun u h => h), .inl gC_NoTalk_, (isT_cons gC_NoClaim_ (xcB_ok (exB_xc (exD_e c.more) (q := "NoClaim") 0 rfl)) (exB_ko (exD_e c.more) (q := ("NoClaim", "NoTalk", false)) 7 rfl) isT_nil)⟩⟩, ⟨⟨.ref _, _, rfl, (fun u h => h), .inl gC_NoText_, (isT_cons gC_NoClaim_ (xcB_ok (exB_xc (exD_e c.more) (q := "NoClaim") 0 rfl)) (exB_ko (exD_e c.more) (q := ("NoClaim", "NoText", false)) 8 rfl) isT_nil)⟩⟩, ⟨⟨.ty "ValueError", .type "ValueError", rfl, (fun u h => h), .inr ⟨He.free_ok X G (c.t.d.fact 24 (f := .free "ValueError") rfl), PyProof.Rows.Boot.«ValueError», by decide⟩, (isT_cons gC_NoClaim_ (xcB_ok (exB_xc (exD_e c.more) (q := "NoClaim") 0 rfl)) (exB_kt (exD_e c.more) (q := ("NoClaim", "ValueError", true)) 0 rfl) isT_nil)⟩⟩⟩
  have F1 : Fun K "_law_cell_at" "_law_cell_at" st__law_cell_at (He.fAd K d__law_cell_at.at_) fd1 := fun_of FD1
  have b1 := F1.binds (ps := ["_law_script", "_law_k"]) fun _ _ _ _ _ _ us hl => match us, hl with | [_, _], _ => rfl
  have F2 : Fun K "_law_mixed" "_law_mixed" st__law_mixed (He.fAd K d__law_mixed.at_) fd2 := fun_of FD2
  have b2 := F2.binds (ps := ["_law_cell", "_law_k"]) fun _ _ _ _ _ _ us hl => match us, hl with | [_, _], _ => rfl
  have F3 : Fun K "_law_draws" "_law_draws" st__law_draws (He.fAd K d__law_draws.at_) fd3 := fun_of FD3
  have b3 := F3.binds (ps := ["_law_cell", "_law_amount", "_law_base"]) fun _ _ _ _ _ _ us hl => match us, hl with | [_, _, _], _ => rfl
  have F4 : Fun K "_law_bounds" "_law_bounds" st__law_bounds (He.fAd K d__law_bounds.at_) fd4 := fun_of FD4
  have b4 := F4.binds (ps := ["_law_draw", "_law_low", "_law_high"]) fun _ _ _ _ _ _ us hl => match us, hl with | [_, _, _], _ => rfl
  have F5 : Fun K "_law_hand_test" "_law_hand_test" st__law_hand_test (He.fAd K d__law_hand_test.at_) fd5 := fun_of FD5
  have b5 := F5.binds (ps := ["_law_draws_here", "_law_deep"]) fun _ _ _ _ _ _ us hl => match us, hl with | [_, _], _ => rfl
  have F6 : Fun K "_law_test" "_law_test" st__law_test (He.fAd K d__law_test.at_) fd6 := fun_of FD6
  have b6 := F6.binds (ps := ["_law_draws_here", "_law_roles", "_law_deep"]) fun _ _ _ _ _ _ us hl => match us, hl with | [_, _, _], _ => rfl
  have F7 : Fun K "_law_claim" "_law_claim" st__law_claim (He.fAd K d__law_claim.at_) fd7 := fun_of FD7
  have b7 := F7.binds (ps := ["_law_cell", "_law_roles"]) fun _ _ _ _ _ _ us hl => match us, hl with | [_, _], _ => rfl
  have F8 : Fun K "is_told" "is_told" st_is_told (He.fAd K d_is_told.at_) fd8 := fun_of FD8
  have b8 := F8.binds (ps := ["thing", "word", "many"]) fun _ _ _ _ _ _ us hl => match us, hl with | [_, _, _], _ => rfl
  have F9 : Fun K "is_whole" "is_whole" st_is_whole (He.fAd K d_is_whole.at_) fd9 := fun_of FD9
  have b9 := F9.binds (ps := ["thing"]) fun _ _ _ _ _ _ us hl => match us, hl with | [_], _ => rfl
  have F10 : Fun K "is_from" "is_from" st_is_from (He.fAd K d_is_from.at_) fd10 := fun_of FD10
  have b10 := F10.binds (ps := ["thing", "low", "high"]) fun _ _ _ _ _ _ us hl => match us, hl with | [_, _, _], _ => rfl
  have F11 : Fun K "is_bound" "is_bound" st_is_bound (He.fAd K d_is_bound.at_) fd11 := fun_of FD11
  have b11 := F11.binds (ps := ["thing", "low", "high"]) fun _ _ _ _ _ _ us hl => match us, hl with | [_, _, _], _ => rfl
  have F12 : Fun K "is_box_test" "is_box_test" st_is_box_test (He.fAd K d_is_box_test.at_) fd12 := fun_of FD12
  have b12 := F12.binds (ps := ["thing"]) fun _ _ _ _ _ _ us hl => match us, hl with | [_], _ => rfl
  have F13 : Fun K "is_joined" "is_joined" st_is_joined (He.fAd K d_is_joined.at_) fd13 := fun_of FD13
  have b13 := F13.binds (ps := ["thing", "is_one"]) fun _ _ _ _ _ _ us hl => match us, hl with | [_, _], _ => rfl
  have F14 : Fun K "is_hand_test" "is_hand_test" st_is_hand_test (He.fAd K d_is_hand_test.at_) fd14 := fun_of FD14
  have b14 := F14.binds (ps := ["thing"]) fun _ _ _ _ _ _ us hl => match us, hl with | [_], _ => rfl
  have F15 : Fun K "is_test" "is_test" st_is_test (He.fAd K d_is_test.at_) fd15 := fun_of FD15
  have b15 := F15.binds (ps := ["thing", "roles"]) fun _ _ _ _ _ _ us hl => match us, hl with | [_, _], _ => rfl
  have F16 : Fun K "look_over_claim" "look_over_claim" st_look_over_claim (He.fAd K d_look_over_claim.at_) fd16 := fun_of FD16
  have b16 := F16.binds (ps := ["program", "claim"]) fun _ _ _ _ _ _ us hl => match us, hl with | [_, _], _ => rfl
  have F17 : Fun K "_law_turned" "_law_turned" st__law_turned (He.fAd K d__law_turned.at_) fd17 := fun_of FD17
  have b17 := F17.binds (ps := ["_law_test_here", "_law_times"]) fun _ _ _ _ _ _ us hl => match us, hl with | [_, _], _ => rfl
  have F18 : Fun K "_law_odd" "_law_odd" st__law_odd (He.fAd K d__law_odd.at_) fd18 := fun_of FD18
  have b18 := F18.binds (ps := ["_law_thing", "_law_draw"]) fun _ _ _ _ _ _ us hl => match us, hl with | [_, _], _ => rfl
  have F19 : Fun K "_law_spoiled" "_law_spoiled" st__law_spoiled (He.fAd K d__law_spoiled.at_) fd19 := fun_of FD19
  have b19 := F19.binds (ps := ["_law_thing", "_law_draws_here", "_law_deep"]) fun _ _ _ _ _ _ us hl => match us, hl with | [_, _, _], _ => rfl
  have F20 : Fun K "_law_form" "_law_form" st__law_form (He.fAd K d__law_form.at_) fd20 := fun_of FD20
  have b20 := F20.binds (ps := ["_law_thing", "_law_words"]) fun _ _ _ _ _ _ us hl => match us, hl with | [_, _], _ => rfl
  have F21 : Fun K "_law_whole" "_law_whole" st__law_whole (He.fAd K d__law_whole.at_) fd21 := fun_of FD21
  have b21 := F21.binds (ps := ["_law_thing", "_law_low", "_law_high"]) fun _ _ _ _ _ _ us hl => match us, hl with | [_, _, _], _ => rfl
  have F22 : Fun K "_law_bound" "_law_bound" st__law_bound (He.fAd K d__law_bound.at_) fd22 := fun_of FD22
  have b22 := F22.binds (ps := ["_law_thing", "_law_low", "_law_high"]) fun _ _ _ _ _ _ us hl => match us, hl with | [_, _, _], _ => rfl
  have F23 : Fun K "_law_hand" "_law_hand" st__law_hand (He.fAd K d__law_hand.at_) fd23 := fun_of FD23
  have b23 := F23.binds (ps := ["_law_thing"]) fun _ _ _ _ _ _ us hl => match us, hl with | [_], _ => rfl
  have F24 : Fun K "_law_is_test" "_law_is_test" st__law_is_test (He.fAd K d__law_is_test.at_) fd24 := fun_of FD24
  have b24 := F24.binds (ps := ["_law_thing", "_law_roles"]) fun _ _ _ _ _ _ us hl => match us, hl with | [_, _], _ => rfl
  have F25 : Fun K "_law_is_claim" "_law_is_claim" st__law_is_claim (He.fAd K d__law_is_claim.at_) fd25 := fun_of FD25
  have b25 := F25.binds (ps := ["_law_thing", "_law_roles"]) fun _ _ _ _ _ _ us hl => match us, hl with | [_, _], _ => rfl
  have F26 : Fun K "_law_refused" "_law_refused" st__law_refused (He.fAd K d__law_refused.at_) fd26 := fun_of FD26
  have b26 := F26.binds (ps := ["_law_program", "_law_thing"]) fun _ _ _ _ _ _ us hl => match us, hl with | [_, _], _ => rfl
  have F27 : Fun K "law" "law" st_law (He.fAd K d_law.at_) fd27 := fun_of FD27
  have b27 := FunD.bindsA (ps := ["_law_script"]) FD27 fun _ _ _ _ _ _ us hl => match us, hl with | [_], _ => rfl
  refine ⟨fd27, fun s v => b27 s [v] rfl, fun base _ _ TB_ => ?_⟩
  have g1 : Cal P w K mg base "_law_cell_at" 2 f__law_cell_at 1 := ⟨⟨(He.fAd K d__law_cell_at.at_), _, _, (He.glo_ok X G (c.t.d.fact 25 (f := .glo "_law_cell_at") rfl)), F1.kp, b1, ok__law_cell_at F1 T ⟩⟩
  have g2 : Cal P w K mg base "_law_mixed" 2 f__law_mixed 1 := ⟨⟨(He.fAd K d__law_mixed.at_), _, _, (He.glo_ok X G (c.t.d.fact 26 (f := .glo "_law_mixed") rfl)), F2.kp, b2, ok__law_mixed F2 T ⟩⟩
  have g3 : Cal P w K mg base "_law_draws" 3 f__law_draws 2 := ⟨⟨(He.fAd K d__law_draws.at_), _, _, (He.glo_ok X G (c.t.d.fact 27 (f := .glo "_law_draws") rfl)), F3.kp, b3, ok__law_draws F3 T g2⟩⟩
  have g4 : Cal P w K mg base "_law_bounds" 3 f__law_bounds 1 := ⟨⟨(He.fAd K d__law_bounds.at_), _, _, (He.glo_ok X G (c.t.d.fact 28 (f := .glo "_law_bounds") rfl)), F4.kp, b4, ok__law_bounds F4 T ⟩⟩
  have g5 : Cal P w K mg base "_law_hand_test" 2 (f__law_hand_test 37) 38 := ⟨⟨(He.fAd K d__law_hand_test.at_), _, _, (He.glo_ok X G (c.t.d.fact 29 (f := .glo "_law_hand_test") rfl)), F5.kp, b5, ok__law_hand_test F5 T (He.glo_ok X G (c.t.d.fact 29 (f := .glo "_law_hand_test") rfl)) b5 g4 37⟩⟩
  have g6 : Cal P w K mg base "_law_test" 3 (f__law_test 37) 75 := ⟨⟨(He.fAd K d__law_test.at_), _, _, (He.glo_ok X G (c.t.d.fact 30 (f := .glo "_law_test") rfl)), F6.kp, b6, ok__law_test F6 T (He.glo_ok X G (c.t.d.fact 30 (f := .glo "_law_test") rfl)) b6 g4 g5 37⟩⟩
  have g7 : Cal P w K mg base "_law_claim" 2 f__law_claim 76 := ⟨⟨(He.fAd K d__law_claim.at_), _, _, (He.glo_ok X G (c.t.d.fact 31 (f := .glo "_law_claim") rfl)), F7.kp, b7, ok__law_claim F7 T g3 g6⟩⟩
  have g8 : Cal P w K mg base "is_told" 3 f_is_told 1 := ⟨⟨(He.fAd K d_is_told.at_), _, _, (He.glo_ok X G (c.t.d.fact 32 (f := .glo "is_told") rfl)), F8.kp, b8, ok_is_told F8 T ⟩⟩
  have g9 : Cal P w K mg base "is_whole" 1 f_is_whole 1 := ⟨⟨(He.fAd K d_is_whole.at_), _, _, (He.glo_ok X G (c.t.d.fact 33 (f := .glo "is_whole") rfl)), F9.kp, b9, ok_is_whole F9 T ⟩⟩
  have g10 : Cal P w K mg base "is_from" 3 f_is_from 2 := ⟨⟨(He.fAd K d_is_from.at_), _, _, (He.glo_ok X G (c.t.d.fact 34 (f := .glo "is_from") rfl)), F10.kp, b10, ok_is_from F10 T g9⟩⟩
  have g11 : Cal P w K mg base "is_bound" 3 f_is_bound 2 := ⟨⟨(He.fAd K d_is_bound.at_), _, _, (He.glo_ok X G (c.t.d.fact 35 (f := .glo "is_bound") rfl)), F11.kp, b11, ok_is_bound F11 T g9⟩⟩
  have g12 : Cal P w K mg base "is_box_test" 1 f_is_box_test 3 := ⟨⟨(He.fAd K d_is_box_test.at_), _, _, (He.glo_ok X G (c.t.d.fact 36 (f := .glo "is_box_test") rfl)), F12.kp, b12, ok_is_box_test F12 T g8 g10 g11⟩⟩
  have g13 : ∀ (g_ : List D → Fn) (j_ : Nat), 1 ≤ j_ → CalH P w K mg base "is_joined" 2 (CloOk P w K mg base j_ 1 g_) (f_is_joined g_) (j_ + 1) := fun g_ j_ hj_ => ⟨⟨(He.fAd K d_is_joined.at_), _, _, (He.glo_ok X G (c.t.d.fact 37 (f := .glo "is_joined") rfl)), F13.kp, b13, ok_is_joined F13 T g8 g_ j_ hj_⟩⟩
  have g14 : Cal P w K mg base "is_hand_test" 1 (f_is_hand_test 37) 114 := ⟨⟨(He.fAd K d_is_hand_test.at_), _, _, (He.glo_ok X G (c.t.d.fact 38 (f := .glo "is_hand_test") rfl)), F14.kp, b14, ok_is_hand_test F14 rfl (TB_ (("is_hand_test", none), nm_is_hand_test) (by simp [tabs])) T (He.glo_ok X G (c.t.d.fact 38 (f := .glo "is_hand_test") rfl)) b14 g12 g13 37⟩⟩
  have g15 : Cal P w K mg base "is_test" 2 (f_is_test 37) 225 := ⟨⟨(He.fAd K d_is_test.at_), _, _, (He.glo_ok X G (c.t.d.fact 39 (f := .glo "is_test") rfl)), F15.kp, b15, ok_is_test F15 rfl (TB_ (("is_test", none), nm_is_test) (by simp [tabs])) T (He.glo_ok X G (c.t.d.fact 39 (f := .glo "is_test") rfl)) b15 g8 g14 g10 g11 g13 37⟩⟩
  have g16 : Cal P w K mg base "look_over_claim" 2 f_look_over_claim 226 := ⟨⟨(He.fAd K d_look_over_claim.at_), _, _, (He.glo_ok X G (c.t.d.fact 40 (f := .glo "look_over_claim") rfl)), F16.kp, b16, ok_look_over_claim F16 T g8 g15⟩⟩
  have g17 : Cal P w K mg base "_law_turned" 2 f__law_turned 1 := ⟨⟨(He.fAd K d__law_turned.at_), _, _, (He.glo_ok X G (c.t.d.fact 41 (f := .glo "_law_turned") rfl)), F17.kp, b17, ok__law_turned F17 T ⟩⟩
  have g18 : Cal P w K mg base "_law_odd" 2 f__law_odd 1 := ⟨⟨(He.fAd K d__law_odd.at_), _, _, (He.glo_ok X G (c.t.d.fact 42 (f := .glo "_law_odd") rfl)), F18.kp, b18, ok__law_odd F18 T ⟩⟩
  have g19 : Cal P w K mg base "_law_spoiled" 3 (f__law_spoiled 37) 38 := ⟨⟨(He.fAd K d__law_spoiled.at_), _, _, (He.glo_ok X G (c.t.d.fact 43 (f := .glo "_law_spoiled") rfl)), F19.kp, b19, ok__law_spoiled F19 T (He.glo_ok X G (c.t.d.fact 43 (f := .glo "_law_spoiled") rfl)) b19 g18 37⟩⟩
  have g20 : Cal P w K mg base "_law_form" 2 f__law_form 1 := ⟨⟨(He.fAd K d__law_form.at_), _, _, (He.glo_ok X G (c.t.d.fact 44 (f := .glo "_law_form") rfl)), F20.kp, b20, ok__law_form F20 T ⟩⟩
  have g21 : Cal P w K mg base "_law_whole" 3 f__law_whole 1 := ⟨⟨(He.fAd K d__law_whole.at_), _, _, (He.glo_ok X G (c.t.d.fact 45 (f := .glo "_law_whole") rfl)), F21.kp, b21, ok__law_whole F21 T ⟩⟩
  have g22 : Cal P w K mg base "_law_bound" 3 f__law_bound 2 := ⟨⟨(He.fAd K d__law_bound.at_), _, _, (He.glo_ok X G (c.t.d.fact 46 (f := .glo "_law_bound") rfl)), F22.kp, b22, ok__law_bound F22 T g21⟩⟩
  have g23 : Cal P w K mg base "_law_hand" 1 (f__law_hand 37) 39 := ⟨⟨(He.fAd K d__law_hand.at_), _, _, (He.glo_ok X G (c.t.d.fact 47 (f := .glo "_law_hand") rfl)), F23.kp, b23, ok__law_hand F23 T (He.glo_ok X G (c.t.d.fact 47 (f := .glo "_law_hand") rfl)) b23 g20 g21 g22 37⟩⟩
  have g24 : Cal P w K mg base "_law_is_test" 2 (f__law_is_test 37) 76 := ⟨⟨(He.fAd K d__law_is_test.at_), _, _, (He.glo_ok X G (c.t.d.fact 48 (f := .glo "_law_is_test") rfl)), F24.kp, b24, ok__law_is_test F24 T (He.glo_ok X G (c.t.d.fact 48 (f := .glo "_law_is_test") rfl)) b24 g20 g21 g22 g23 37⟩⟩
  have g25 : Cal P w K mg base "_law_is_claim" 2 f__law_is_claim 77 := ⟨⟨(He.fAd K d__law_is_claim.at_), _, _, (He.glo_ok X G (c.t.d.fact 49 (f := .glo "_law_is_claim") rfl)), F25.kp, b25, ok__law_is_claim F25 T g20 g24⟩⟩
  have g26 : Cal P w K mg base "_law_refused" 2 f__law_refused 227 := ⟨⟨(He.fAd K d__law_refused.at_), _, _, (He.glo_ok X G (c.t.d.fact 50 (f := .glo "_law_refused") rfl)), F26.kp, b26, ok__law_refused F26 T g16⟩⟩
  exact law_okT good (of_decide_eq_true (exD_n c.more)) (ok_law F27 T g1 g7 g16 g17 g19 g3 g25 g26)
end Ev.K45
open PySem PySem.W PySem.Calls PyProof.Rows in
set_option maxRecDepth 100000 in
set_option maxHeartbeats 0 in
theorem PySem.Challenge.cw_letterall_k45_claims_looked_over_holds : PySem.Challenge.rw_letterall_k45_claims_looked_over.Holds := by
  w_on; o_law
  refine HandSHeadRun.head_any (r := OpenLaw.row PySem.Challenge.rw_letterall_k45_claims_looked_over) (q := view (OpenLaw.row PySem.Challenge.rw_letterall_k45_claims_looked_over).prog [40]) (H := Ev.K45.hk) (ob := Ev.K45.ob) (M := 12000) (loose := Ev.K45.loose) (d := HandSHeadRun.topDef (OpenLaw.row PySem.Challenge.rw_letterall_k45_claims_looked_over).prog 40) (kwd := []) Ev.K45.ob_eq
    (by kernel_rfl) (fun s => by kernel_rfl) Ev.K45.run (by kernel_rfl) (by kernel_rfl) (by kernel_rfl) (by rfl) (by first | assumption | decide +kernel) (by decide +kernel) ⟨rfl, rfl, rfl, rfl, rfl, by decide +kernel⟩ ?hw ?hc
  case hw => w_witness2
  case hc =>
    refine Ev.walk_xT (T := Ev.K45.tabs) (l := PySem.Challenge.rw_letterall_k45_claims_looked_over) (k := 228) (x := "_law_script") rfl (by kernel_rfl) ⟨⟨rfl, by decide, by decide⟩, rfl⟩ ?F
    intro w mg fa h Y G hmg0
    obtain ⟨K, KX, c⟩ := Y
    have hmg : mg ("law" : PySem.Str) = some (.ref fa) := by
      have e : (HandSHeadRun.topDef (OpenLaw.row PySem.Challenge.rw_letterall_k45_claims_looked_over).prog 40).name = ("law" : PySem.Str) := by kernel_rfl
      rw [← e]
      exact hmg0
    obtain ⟨fd, hb, hF⟩ := Ev.K45.all_x (P := (PySem.Challenge.rw_letterall_k45_claims_looked_over).prog) (w := w) KX G Ev.K45.good hmg c
    exact ⟨K, fd, KX, fun p hp => ⟨c.hd p.1 (List.mem_map_of_mem (f := Prod.fst) hp), c.out p.1 (List.mem_map_of_mem (f := Prod.fst) hp), c.empty p.1 (List.mem_map_of_mem (f := Prod.fst) hp)⟩, hb, hF⟩
#print axioms PySem.Challenge.cw_letterall_k45_claims_looked_over_holds
