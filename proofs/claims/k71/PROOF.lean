import PyProof.Rows.All
import Wide.All
import OpenK.AllK
import Wide.FinOn
import HandS.Words
import HandS.WordsExc
import HandS.Property
import HandS.ExcInit
import HandS.ExcField
import KE.KExcSuper
import HandS.ExcSuper
import HandS.HeadHook2
import KE.KStateDown
import HandS.Head0
import HandS.Head1
import HandS.Head2
import HandS.Head3
import HandS.ForMost
import HandS.TupAny
import HandS.Exc
import HandS.WordsList
import HandS.Zip
import HandS.Conv
import KE.KDictKeyed
import KE.KeyNested
import KE.SortData
import PyProof.ReprRoads
import KE.KUnpackStar
import HandS.IsInst
import HandS.NoneIn
import HandS.Style
import KE.GoesEnum
import HandS.Defaults
import HandS.RepeatKit
import PyProof.TupleOfSeq
import HandS.TryOnly
import HandS.ExcOwn
import HandS.ExcCtx
import HandS.HotCalls
import HandS.OwnEq
import PySem.Challenge.RW_tidewaits_k71_whole_hours_go_on
set_option Elab.async false
set_option linter.all false
set_option maxRecDepth 100000
set_option maxHeartbeats 0
/-! WZ0: what the top has left, by one look; the top's run. -/
namespace TW
open PySem PySem.Spec PyProof.Rows L2
abbrev prZ : Program := PySem.Challenge.rw_tidewaits_k71_whole_hours_go_on.prog
abbrev fileZ : Str := prZ.main.file
def topZ (i : Nat) : Stmt := PySem.Challenge.pw_tidewaits_k71_whole_hours_go_on.main.body.getD i (.Pass ⟨0, 0, 0, 0⟩)
def bodyZ (i : Nat) : List Stmt := match topZ i with
  | .ClassDef _ _ _ body _ _ _ _ _ _ _ => body
  | _ => []
def methZ (i j : Nat) : Stmt := (bodyZ i).getD j (.Pass ⟨0, 0, 0, 0⟩)
/-- the def that stands at an address -/
def fdZ (K : PySem.W.Frag) (a : Addr) : Option FuncData := match K.lookup a with
  | some ⟨_, _, .func fd, _⟩ => some fd
  | _ => none
abbrev FZ : Type := Option (Str × Str × Arguments × FuncBody × Scope × Addr × List Str × Addr)
def seenZ (fd : FuncData) : Str × Str × Arguments × FuncBody × Scope × Addr × List Str × Addr := (fd.name, fd.qualname, fd.params, fd.body, fd.scope, fd.globals, fd.closure.map (·.1), fd.builtins)
def valF (name qual : Str) (st : Stmt) (clo : List Str) : FZ := some (name, qual, defArgs st, .stmts (defBody st), defScope st, mainGlobals, clo, builtinsNs)
def nonZ : Value → Bool
  | .none => true
  | _ => false
/-- a def at a, and one Bool beside -/
def lookZ (K : PySem.W.Frag) (e : Bool) (q : Str) (a : Addr) : Bool × FZ := match fdZ K a with
  | some fd => (e && (PySem.W.isFn K (.ref a) && (PySem.W.keepIn K (.ref a) && (PySem.W.codeIn K fd.code q && nonZ fd.defaults))), some (seenZ fd))
  | none => (false, none)
structure GZ where
  x : Str
  q : Str
  st : Stmt
def GZ.obs (K : PySem.W.Frag) (d : GZ) : Bool × FZ := match PySem.W.nsIn K mainGlobals d.x with
  | some (some (.ref a)) => HandSHeadRun.frNat a fun a => lookZ K true d.q a
  | _ => (false, none)
def GZ.val (d : GZ) : Bool × FZ := (true, valF d.q d.q d.st [])
structure MZ where
  m : Str
  q : Str
  st : Stmt
def MZ.obs (K : PySem.W.Frag) (C : Addr) (d : MZ) : Bool × FZ := match PySem.W.findIn K (.ref C) d.m with
  | some (some (.ref a)) => HandSHeadRun.frNat a fun a => lookZ K true d.q a
  | _ => (false, none)
def MZ.val (d : MZ) : Bool × FZ := (true, valF d.m d.q d.st [])
/-- the property f's getter -/
def propO (K : PySem.W.Frag) (C : Addr) (f q : Str) : Bool × FZ := match PySem.W.findIn K (.ref C) f with
  | some (some (.ref p)) => HandSHeadRun.frNat p fun p => (match PySem.W.recIn K p "property" with
    | some (.ref g :: _) => HandSHeadRun.frNat g fun g => lookZ K (He.eqO (PySem.W.specialIn K (.ref p) "__get__") (some (some (.builtin "property.__get__"))) && decide (PySem.W.takesIn K (.ref p) = some true)) q g
    | _ => (false, none))
  | _ => (false, none)
/-! ### constants -/
def intZ (K : PySem.W.Frag) (x : Str) (i : Int) : Bool := match PySem.W.nsIn K mainGlobals x with
  | some (some (.int j _)) => decide (j = i)
  | _ => false
def ptZ (K : PySem.W.Frag) (p : Int × Int) (u : Value) : Bool := match u with
  | .ref a => (match K.lookup a with
    | some ⟨.type t, _, .seq its _, _⟩ => decide (t = "tuple") && (decide (its.size ≤ sizeLine) && He.relAll [.int p.1, .int p.2] its.toList)
    | _ => false)
  | _ => false
def ptsZ (K : PySem.W.Frag) : List (Int × Int) → List Value → Bool
  | [], [] => true
  | p :: ps, u :: us => ptZ K p u && ptsZ K ps us
  | _, _ => false
def pairZ (K : PySem.W.Frag) (x : Str) (p : Int × Int) : Bool := match PySem.W.nsIn K mainGlobals x with
  | some (some u) => ptZ K p u
  | _ => false
def tabZ (K : PySem.W.Frag) (x : Str) (ps : List (Int × Int)) : Bool := match PySem.W.nsIn K mainGlobals x with
  | some (some (.ref a)) => (match K.lookup a with
    | some ⟨.type t, _, .seq its _, _⟩ => decide (t = "tuple") && (decide (its.size ≤ sizeLine) && ptsZ K ps its.toList)
    | _ => false)
  | _ => false
def bndsZ : List (Int × Int) := [(0, 20), (1, 9), (0, 40), (1, 4), (0, 3), (0, 9), (0, 9)]
def freeZ (K : PySem.W.Frag) (x : Str) : Bool := He.eqO (PySem.W.nsIn K mainGlobals x) (some none)
def gloZ (K : PySem.W.Frag) (x : Str) (a : Addr) : Bool := He.eqO (PySem.W.nsIn K mainGlobals x) (some (some (.ref a)))
def noB (K : PySem.W.Frag) (C : Addr) (fs : List Str) : Bool := fs.all fun f => He.eqO (PySem.W.findIn K (.ref C) f) (some none)
def clsZ (K : PySem.W.Frag) (C : Addr) : Bool := PySem.W.plainGet K C Str.empty && (PySem.W.hasDictIn K C && (PySem.W.plainOver K C && He.eqO (PySem.W.findIn K (.ref C) "__setattr__") (some (some (.builtin "object.__setattr__")))))
def mkZ (K : PySem.W.Frag) (C : Addr) : Bool := PySem.W.makesIn K C && PySem.W.keepIn K (.ref C)
/-! ### an own exception's class -/
def oexZ (K : PySem.W.Frag) (C : Addr) : Bool := match K.lookup C with
  | some ⟨.type t, _, .cls cd, sl⟩ => decide (t = "type") && ((match cd.mro with
    | .ref c :: bm => decide (c = C) && PySem.HandSPX.refsVE bm
    | _ => false) && (cd.hasDict && (!cd.hasDel && (match sl.toList with
    | [_, _, _, _, some (.builtin n), _] => decide (n = "ValueError.__new__")
    | _ => false))))
  | _ => false
def cellZ (K : PySem.W.Frag) (C : Addr) (cl : List (Str × Addr)) : Bool := match cl with
  | [(_, cc)] => (match K.lookup cc with
    | some ⟨_, _, .cell (some (.ref c)), _⟩ => decide (c = C)
    | _ => false)
  | _ => false
def srcZ (K : PySem.W.Frag) (file : Str) (cd : Value) : Bool := match cd with
  | .ref c => (match K.lookup c with
    | some ⟨_, _, .fields vs, _⟩ => (match (vs[2]? : Option Value) with
      | some (.str s _) => decide (s = file)
      | _ => false)
    | _ => false)
  | _ => false
def extZ (K : PySem.W.Frag) (C f : Addr) (file : Str) : Bool := oexZ K C && (He.eqO (PySem.W.findIn K (.ref C) "__setattr__") (some (some (.builtin "object.__setattr__"))) && (decide (PySem.W.subIn K (.ref C) (.type "BaseException") = some true) && (decide (PySem.W.typeIn K (.ref C) = some (.type "type")) && (PySem.W.keepIn K (.ref C) &&
  (decide (PySem.W.subIn K (.ref C) (.type "ValueError") = some true) && (He.eqO (PySem.W.nsIn K cStatics "thirdparty.any") (some none) && (He.eqO (PySem.W.ks_superIn K C C "__init__") (some (some (.builtin "ValueError.__init__"))) && (decide (PySem.W.mroIn K C (.ref C) = some true) && (match fdZ K f with
  | some fd => cellZ K C fd.closure && srcZ K file fd.code
  | none => false)))))))))
def extO (K : PySem.W.Frag) (C : Addr) (file q : Str) : Bool × FZ := match PySem.W.findIn K (.ref C) "__init__" with
  | some (some (.ref a)) => HandSHeadRun.frNat a fun a => lookZ K (extZ K C a file) q a
  | _ => (false, none)
def zxZ : List (PySem.W.Frag → Addr → Addr → Addr → Addr → Bool) := [
  fun K CS CC CN CL => (["len", "all", "any", "sum", "min", "max", "int", "isinstance", "bool", "tuple", "list", "set", "sorted", "reversed", "enumerate", "zip", "range", "repr", "super"] : List Str).all (freeZ K),
  fun K CS CC CN CL => pairZ K "SEA_best" (-1, 0),
  fun K CS CC CN CL => pairZ K "GONE_best" (-2, 0),
  fun K CS CC CN CL => pairZ K "SEA_console" (-1, 0),
  fun K CS CC CN CL => pairZ K "GONE_console" (-2, 0),
  fun K CS CC CN CL => intZ K "MOST_SHIPS" 3,
  fun K CS CC CN CL => tabZ K "BOUNDS" bndsZ,
  fun K CS CC CN CL => He.eqO (PySem.W.nsIn K mainGlobals "combinations") (some (some (.type "itertools.combinations"))),
  fun K CS CC CN CL => decide (PySem.W.kitOne K (.type "int") (.type "int") = some true),
  fun K CS CC CN CL => decide (PySem.W.kitOne K (.type "int") (.type "bool") = some false),
  fun K CS CC CN CL => gloZ K "State" CS,
  fun K CS CC CN CL => clsZ K CS,
  fun K CS CC CN CL => mkZ K CS,
  fun K CS CC CN CL => noB K CS ["harbour", "ships", "here", "done", "promises", "way"],
  fun K CS CC CN CL => gloZ K "Console" CC,
  fun K CS CC CN CL => clsZ K CC,
  fun K CS CC CN CL => mkZ K CC,
  fun K CS CC CN CL => noB K CC ["_states", "_at", "_entries"],
  fun K CS CC CN CL => gloZ K "NoWay" CN,
  fun K CS CC CN CL => decide (CS ≠ CC),
  fun K CS CC CN CL => gloZ K "Clash" CL,
  fun K CS CC CN CL => He.eqO (PySem.W.findIn K (.ref CL) "ships") (some none),
  fun K CS CC CN CL => xfB K CL,
  fun K CS CC CN CL => decide (PySem.W.exmOne K (.ref CL) (.ref CL) = some true),
  fun K CS CC CN CL => decide (PySem.W.exmOne K (.ref CN) (.ref CN) = some true)]
def gzZ : List GZ := [
  ⟨"is_within", "is_within", topZ 13⟩,
  ⟨"check_row", "check_row", topZ 14⟩,
  ⟨"check_harbour", "check_harbour", topZ 15⟩,
  ⟨"check_ships", "check_ships", topZ 16⟩,
  ⟨"depth_at", "depth_at", topZ 17⟩,
  ⟨"waits", "waits", topZ 18⟩,
  ⟨"cost_of", "cost_of", topZ 19⟩,
  ⟨"beginning", "beginning", topZ 23⟩,
  ⟨"is_end_best", "is_end", topZ 24⟩,
  ⟨"berths_for", "berths_for", topZ 26⟩,
  ⟨"choices", "choices", topZ 27⟩,
  ⟨"is_kept", "is_kept", topZ 28⟩,
  ⟨"is_let", "is_let", topZ 29⟩,
  ⟨"moves_in", "moves_in", topZ 30⟩,
  ⟨"cost_in", "cost_in", topZ 31⟩,
  ⟨"after_moves", "after_moves", topZ 32⟩,
  ⟨"ways_in", "ways_in", topZ 33⟩,
  ⟨"grown", "grown", topZ 34⟩,
  ⟨"least", "least", topZ 35⟩,
  ⟨"added", "added", topZ 36⟩,
  ⟨"rests_in", "rests_in", topZ 37⟩,
  ⟨"rest_of", "rest_of", topZ 38⟩,
  ⟨"ways_on", "ways_on", topZ 39⟩,
  ⟨"best_moves", "best_moves", topZ 40⟩,
  ⟨"is_end_console", "is_end", topZ 45⟩,
  ⟨"has_way", "has_way", topZ 47⟩,
  ⟨"kept_alone", "kept_alone", topZ 48⟩,
  ⟨"clash_of", "clash_of", topZ 49⟩,
  ⟨"way_on", "way_on", topZ 50⟩,
  ⟨"_law_draws", "_law_draws", topZ 54⟩,
  ⟨"_law_small", "_law_small", topZ 55⟩,
  ⟨"_law_world", "_law_world", topZ 56⟩,
  ⟨"_law_promised", "_law_promised", topZ 57⟩,
  ⟨"_law_moves", "_law_moves", topZ 58⟩,
  ⟨"_law_tuples", "_law_tuples", topZ 59⟩,
  ⟨"_law_beside", "_law_beside", topZ 60⟩,
  ⟨"_law_has_plan", "_law_has_plan", topZ 61⟩,
  ⟨"law", "law", topZ 62⟩]
def msZ : List MZ := [
  ⟨"__init__", "State.__init__", methZ 51 0⟩,
  ⟨"plan_of", "State.plan_of", methZ 51 1⟩,
  ⟨"cost_now", "State.cost_now", methZ 51 2⟩]
def mcZ : List MZ := [
  ⟨"__init__", "Console.__init__", methZ 52 0⟩,
  ⟨"_state", "Console._state", methZ 52 1⟩,
  ⟨"_enter", "Console._enter", methZ 52 2⟩,
  ⟨"_check_name", "Console._check_name", methZ 52 3⟩,
  ⟨"go", "Console.go", methZ 52 4⟩,
  ⟨"promise", "Console.promise", methZ 52 6⟩,
  ⟨"harbour", "Console.harbour", methZ 52 14⟩,
  ⟨"ships", "Console.ships", methZ 52 15⟩,
  ⟨"promises", "Console.promises", methZ 52 16⟩,
  ⟨"plan", "Console.plan", methZ 52 17⟩,
  ⟨"state", "Console.state", methZ 52 18⟩,
  ⟨"cost", "Console.cost", methZ 52 19⟩,
  ⟨"__len__", "Console.__len__", methZ 52 24⟩]
abbrev AlZ : Type := Bool × List (Bool × FZ) × List (Bool × FZ) × List (Bool × FZ) × List (Bool × FZ)
def obsY (K : PySem.W.Frag) (CS CC CN CL : Addr) : AlZ := (zxZ.all (fun f => f K CS CC CN CL), gzZ.map fun d => d.obs K, msZ.map fun d => d.obs K CS, mcZ.map fun d => d.obs K CC,
  [propO K CC "now" "Console.now", extO K CN fileZ "NoWay.__init__", extO K CL fileZ "Clash.__init__"])
def obsZ (K : PySem.W.Frag) : AlZ := HandSHeadRun.frNat (He.ga K "State") fun CS => HandSHeadRun.frNat (He.ga K "Console") fun CC => HandSHeadRun.frNat (He.ga K "NoWay") fun CN => HandSHeadRun.frNat (He.ga K "Clash") fun CL => obsY K CS CC CN CL
def valZ : AlZ := (true, gzZ.map GZ.val, msZ.map MZ.val, mcZ.map MZ.val,
  [(true, valF "now" "Console.now" (methZ 52 21) []), (true, valF "__init__" "NoWay.__init__" (methZ 8 0) ["__class__"]), (true, valF "__init__" "Clash.__init__" (methZ 10 0) ["__class__"])])
def SaysZ (K : PySem.W.Frag) : Prop := obsZ K = valZ
/-! ### the run -/
/-- a list of addresses, brought to its form before one goes on -/
def frA {β : Type} : List Addr → (List Addr → β) → β
  | [], k => k []
  | x :: r, k => HandSHeadRun.frNat x fun y => frA r fun z => k (y :: z)
/-- what stands at these addresses names -/
def nxZ (g : Addr → Option Obj) (as : List Addr) : List Addr := as.flatMap fun a => match g a with
  | some o => He.refsD o
  | none => []
/-- all that is reached in n more steps from the front fr -/
def walkA (g : Addr → Option Obj) : Nat → List Addr → List Addr → List Addr
  | 0, _, all => all
  | n + 1, fr, all => frA ((nxZ g fr).eraseDups) fun nx => walkA g n nx (all ++ nx)
def asZ (g : Addr → Option Obj) (n : Nat) : List Addr := walkA g n [mainGlobals] [mainGlobals, cStatics]
/-- a part of the heap, brought to its form -/
def frK {β : Type} (g : Addr → Option Obj) : List Addr → (PySem.W.Frag → β) → β
  | [], k => k []
  | a :: r, k => (match g a with
    | some ⟨c, d, dt, sl⟩ => frK g r fun z => k ((a, ⟨c, d, dt, sl⟩) :: z)
    | none => frK g r k)
theorem frK_eq {β : Type} (g : Addr → Option Obj) : ∀ (l : List Addr) (k : PySem.W.Frag → β), frK g l k = k (He.frG g l)
  | [], _ => rfl
  | a :: r, k => by
    unfold frK He.frG
    rw [List.filterMap_cons]
    cases e : g a with
    | none => exact frK_eq g r k
    | some o =>
      obtain ⟨c, d, dt, sl⟩ := o
      exact frK_eq g r _
def hookZ (n : Nat) : PySem.W.Hook where
  α := AlZ
  obs := fun s => obsZ (He.frG s.heap.get? (asZ s.heap.get? n))
  val := fun _ => valZ
  says := fun _ h => ∃ K : PySem.W.Frag, K.In h ∧ SaysZ K
  of := fun _ _ e => ⟨_, He.frG_in, e⟩
  keeps := fun _ _ _ ⟨K, hK, c⟩ k => ⟨K, PySem.W.Frag.In.keeps hK k, c⟩
def obB (n : Nat) (s : PySem.W.SharedT) : AlZ := frK (HandSHeadRun.getT s) (asZ (HandSHeadRun.getT s) n) obsZ
theorem obB_eq (n : Nat) (s : PySem.W.SharedT) : obB n s = (hookZ n).obs s.abs := by
  have e : HandSHeadRun.getT s = s.abs.heap.get? := funext (HandSHeadRun.getT_eq s)
  unfold obB
  rw [frK_eq, e] <;> rfl
abbrev RB : PySem.W.OpenRow := PySem.W.OpenLaw.row PySem.Challenge.rw_tidewaits_k71_whole_hours_go_on
abbrev qB : Program := PySem.W.view RB.prog [0, 62]
def looseB0 : List PySem.Str := ["_wall", "TideError", "BadSize", "BadNumber", "BadHour", "NotSo", "NoWay", "BadShip", "Clash", "BOUNDS", "is_within", "check_row", "check_harbour", "check_ships", "depth_at", "waits", "cost_of", "SEA_best", "GONE_best", "beginning"]
def looseB1 : List PySem.Str := ["is_end", "is_end_best", "berths_for", "choices", "is_kept", "is_let", "moves_in", "cost_in", "after_moves", "ways_in", "grown", "least", "added", "rests_in", "rest_of", "ways_on", "best_moves", "MOST_SHIPS", "SEA_console", "GONE_console"]
def looseB2 : List PySem.Str := ["is_end_console", "has_way", "kept_alone", "clash_of", "way_on", "State", "Console", "_law_draws", "_law_small", "_law_world", "_law_promised", "_law_moves", "_law_tuples", "_law_beside", "_law_has_plan"]
def looseB : List PySem.Str := looseB0 ++ looseB1 ++ looseB2
theorem runB (w : World) : HandSHeadRun.RunEqI RB qB (hookZ 5) (obB 5) 20000 looseB w := by
  unfold HandSHeadRun.RunEqI
  kernel_rfl
end TW
set_option maxHeartbeats 4000000
/-! TwA: heaps that grow, what an expression comes to, over the layer's judgements. -/
namespace TW
open PySem L2
/-! ### heaps that grow: B is what is known and stays, H is all -/
structure Gr (B H B' H' : Hp) : Prop where
  hh : Same H H'
  bb : Same B B'
  bh : Same B' H'
  fr : ∀ a, B' a ≠ none → B a ≠ none ∨ H a = none
theorem Gr.rfl {B H : Hp} (h : Same B H) : Gr B H B H := ⟨.refl _, .refl _, h, fun _ e => .inl e⟩
theorem Gr.trans {B H B1 H1 B2 H2 : Hp} (a : Gr B H B1 H1) (b : Gr B1 H1 B2 H2) : Gr B H B2 H2 :=
  ⟨a.hh.trans b.hh, a.bb.trans b.bb, b.bh, fun x e => (b.fr x e).elim (fun z => a.fr x z) fun z => .inr (a.hh.free z)⟩
theorem Gr.low {B H B' H' : Hp} (a : Gr B H B' H') {p : Addr} (hb : B p = none) (hp : H p ≠ none) : B' p = none := by
  cases q : B' p with
  | none => exact Eq.refl _
  | some o =>
    rcases a.fr p (by rw [q]; intro z; cases z) with z | z
    · exact absurd hb z
    · exact absurd z hp
theorem same_new {H : Hp} {p : Addr} {o : HO} (h : H p = none) : Same H (upd H p o) := fun a u e => by
  rw [upd_ne (ne_of_none e h)]
  exact e
theorem Gr.new {B H : Hp} {p : Addr} {o : HO} (s : Same B H) (h : H p = none) : Gr B H (upd B p o) (upd H p o) := by
  refine ⟨same_new h, same_new (s.free h), fun a u e => ?_, fun a e => ?_⟩
  · by_cases ha : a = p
    · subst ha
      rw [upd_same] at e ⊢
      exact e
    · rw [upd_ne ha] at e ⊢
      exact s a u e
  · by_cases ha : a = p
    · exact .inr (ha ▸ h)
    · rw [upd_ne ha] at e
      exact .inl e
theorem Gr.newH {B H : Hp} {p : Addr} {o : HO} (s : Same B H) (h : H p = none) : Gr B H B (upd H p o) :=
  ⟨same_new h, .refl _, s.trans (same_new h), fun _ e => .inl e⟩
theorem same_mut {H H' : Hp} {p : Addr} {o : HO} (e : Same H H') (h : H p = none) : Same H (upd H' p o) := fun a u ha => by
  rw [upd_ne (ne_of_none ha h)]
  exact e a u ha
/-- an own object, made since, is changed -/
theorem Gr.mut {B H B' H' : Hp} {p : Addr} {o : HO} (g : Gr B H B' H') (h : H p = none) (hb : B' p = none) : Gr B H B' (upd H' p o) :=
  ⟨same_mut g.hh h, g.bb, same_mut g.bh hb, g.fr⟩
/-- an own object, made since, stands from now on -/
theorem Gr.freeze {B H B' H' : Hp} {p : Addr} {o : HO} (g : Gr B H B' H') (h : H p = none) (e : H' p = some o) : Gr B H (upd B' p o) H' := by
  have nb : ∀ b u, B' b = some u → b = p → u = o := fun b u hb z => by
    have q := g.bh b u hb
    rw [z, e] at q
    exact (Option.some.inj q).symm
  refine ⟨g.hh, fun b u hb => ?_, fun b u hb => ?_, fun b hb => ?_⟩
  · have q := g.bb b u hb
    by_cases z : b = p
    · have w := nb b u q z
      rw [z, upd_same, w]
    · rw [upd_ne z]
      exact q
  · by_cases z : b = p
    · rw [z, upd_same] at hb
      rw [z, e]
      exact hb
    · rw [upd_ne z] at hb
      exact g.bh b u hb
  · by_cases z : b = p
    · exact .inr (z ▸ h)
    · rw [upd_ne z] at hb
      exact g.fr b hb
/-- both -/
def uni (B C : Hp) : Hp := fun a => match B a with
  | some o => some o
  | none => C a
theorem uni_l {B C : Hp} : Same B (uni B C) := fun a o e => by
  unfold uni
  rw [e]
theorem uni_sub {B C H : Hp} (h1 : Same B H) (h2 : Same C H) : Same (uni B C) H := fun a o e => by
  unfold uni at e
  cases q : B a with
  | some u =>
    rw [q] at e
    exact h1 a o (q.trans e)
  | none =>
    rw [q] at e
    exact h2 a o e
theorem uni_r {B C H : Hp} (h1 : Same B H) (h2 : Same C H) : Same C (uni B C) := fun a o e => by
  unfold uni
  cases q : B a with
  | some u =>
    have z := h1 a u q
    rw [h2 a o e] at z
    exact z.symm
  | none => exact e
/-- what grew over less grew over more -/
theorem Gr.wide {B C H B' H' : Hp} (g : Gr B H B' H') (bc : Same B C) (ch : Same C H) : Gr C H (uni B' C) H' := by
  have c' : Same C H' := ch.trans g.hh
  refine ⟨g.hh, uni_r g.bh c', uni_sub g.bh c', fun a e => ?_⟩
  unfold uni at e
  cases q : B' a with
  | some u =>
    rcases g.fr a (by rw [q]; intro z; cases z) with z | z
    · left
      cases w : B a with
      | none => exact absurd w z
      | some o =>
        rw [bc a o w]
        intro y
        cases y
    · exact .inr z
  | none =>
    rw [q] at e
    exact .inl e
end TW
namespace L2
open PySem
/-! ### data -/
mutual
/-- the value v is the datum d: its lists and tuples are tracked (tuples may be of the text) -/
inductive Dq (K : PySem.W.Frag) (H : Hp) : V → PyData → Prop
  | non : Dq K H .non .none
  | bl (b : Bool) : Dq K H (.bl b) (.bool b)
  | int (i : Int) : Dq K H (.int i) (.int i)
  | str (x : Str) : Dq K H (.str x) (.str x)
  | lst {a : Addr} {xs : List V} {ds : List PyData} : H a = some (.lst xs) → DqAll K H xs ds → Dq K H (.ref a) (.list ds)
  | tup {a : Addr} {xs : List V} {ds : List PyData} : SqT K H a xs → DqAll K H xs ds → Dq K H (.ref a) (.tuple ds)
inductive DqAll (K : PySem.W.Frag) (H : Hp) : List V → List PyData → Prop
  | nil : DqAll K H [] []
  | cons {v : V} {vs : List V} {d : PyData} {ds : List PyData} : Dq K H v d → DqAll K H vs ds → DqAll K H (v :: vs) (d :: ds)
end
mutual
theorem Dq.dp {K : PySem.W.Frag} {H : Hp} : ∀ (d : PyData) (v : V), Dq K H v d → Dp K H v d
  | .none, _, h => by cases h; exact .non
  | .bool _, _, h => by cases h; exact .bl _
  | .int _, _, h => by cases h; exact .int _
  | .str _, _, h => by cases h; exact .str _
  | .list ds, _, h => by
    cases h with
    | lst hs ha => exact .lst (.of hs) (DqAll.dp ds _ ha)
  | .tuple ds, _, h => by
    cases h with
    | tup hs ha => exact .tup hs (DqAll.dp ds _ ha)
  | .dict _, _, h => by cases h
theorem DqAll.dp {K : PySem.W.Frag} {H : Hp} : ∀ (ds : List PyData) (vs : List V), DqAll K H vs ds → DpAll K H vs ds
  | [], _, h => by cases h; exact .nil
  | d :: ds, _, h => by
    cases h with
    | cons h1 h2 => exact .cons (Dq.dp d _ h1) (DqAll.dp ds _ h2)
end
theorem Same.seqT {K : PySem.W.Frag} {H H' : Hp} {a : Addr} {xs : List V} (e : Same H H') (h : SqT K H a xs) : SqT K H' a xs := by
  rcases h with (h | ⟨o, h⟩) | h
  · exact .inl (.inl (e _ _ h))
  · exact .inl (.inr ⟨o, e _ _ h⟩)
  · exact .inr h
mutual
theorem Dq.up {K : PySem.W.Frag} {H H' : Hp} (e : Same H H') : ∀ (d : PyData) (v : V), Dq K H v d → Dq K H' v d
  | .none, _, h => by cases h; exact .non
  | .bool _, _, h => by cases h; exact .bl _
  | .int _, _, h => by cases h; exact .int _
  | .str _, _, h => by cases h; exact .str _
  | .list ds, _, h => by
    cases h with
    | lst hs ha => exact .lst (e _ _ hs) (DqAll.up e ds _ ha)
  | .tuple ds, _, h => by
    cases h with
    | tup hs ha => exact .tup (Same.seqT e hs) (DqAll.up e ds _ ha)
  | .dict _, _, h => by cases h
theorem DqAll.up {K : PySem.W.Frag} {H H' : Hp} (e : Same H H') : ∀ (ds : List PyData) (vs : List V), DqAll K H vs ds → DqAll K H' vs ds
  | [], _, h => by cases h; exact .nil
  | d :: ds, _, h => by
    cases h with
    | cons h1 h2 => exact .cons (Dq.up e d _ h1) (DqAll.up e ds _ h2)
end
section
variable {K : PySem.W.Frag} {H : Hp}
theorem DqAll.length : ∀ {vs : List V} {ds : List PyData}, DqAll K H vs ds → vs.length = ds.length
  | _, _, .nil => Eq.refl _
  | _, _, .cons _ t => congrArg Nat.succ (DqAll.length t)
theorem DqAll.get : ∀ {vs : List V} {ds : List PyData} {i : Nat} {d : PyData}, DqAll K H vs ds → ds[i]? = some d → ∃ v, vs[i]? = some v ∧ Dq K H v d
  | _, _, _, _, .nil, e => by simp at e
  | _, _, 0, _, .cons r _, e => by
    simp at e
    subst e
    exact ⟨_, Eq.refl _, r⟩
  | _, _, i + 1, d, .cons _ t, e => by
    obtain ⟨v, h1, h2⟩ := DqAll.get (i := i) (d := d) t (by simpa using e)
    exact ⟨v, by simpa using h1, h2⟩
theorem DqAll.getV : ∀ {vs : List V} {ds : List PyData} {i : Nat} {v : V}, DqAll K H vs ds → vs[i]? = some v → ∃ d, ds[i]? = some d ∧ Dq K H v d
  | _, _, _, _, .nil, e => by simp at e
  | _, _, 0, _, .cons r _, e => by
    simp at e
    subst e
    exact ⟨_, Eq.refl _, r⟩
  | _, _, i + 1, v, .cons _ t, e => by
    obtain ⟨d, h1, h2⟩ := DqAll.getV (i := i) (v := v) t (by simpa using e)
    exact ⟨d, by simpa using h1, h2⟩
theorem DqAll.app : ∀ {vs ws : List V} {ds es : List PyData}, DqAll K H vs ds → DqAll K H ws es → DqAll K H (vs ++ ws) (ds ++ es)
  | _, _, _, _, .nil, s => s
  | _, _, _, _, .cons r t, s => .cons r (DqAll.app t s)
theorem DqAll.one {v : V} {d : PyData} (h : Dq K H v d) : DqAll K H [v] [d] := .cons h .nil
theorem DqAll.take : ∀ {vs : List V} {ds : List PyData} (n : Nat), DqAll K H vs ds → DqAll K H (vs.take n) (ds.take n)
  | _, _, 0, _ => .nil
  | _, _, _ + 1, .nil => .nil
  | _, _, n + 1, .cons r t => .cons r (DqAll.take n t)
theorem DqAll.drop : ∀ {vs : List V} {ds : List PyData} (n : Nat), DqAll K H vs ds → DqAll K H (vs.drop n) (ds.drop n)
  | _, _, 0, r => r
  | _, _, _ + 1, .nil => .nil
  | _, _, n + 1, .cons _ t => DqAll.drop n t
theorem DqAll.set {v : V} {d : PyData} (r : Dq K H v d) : ∀ {vs : List V} {ds : List PyData} (i : Nat), DqAll K H vs ds → DqAll K H (vs.set i v) (ds.set i d)
  | _, _, _, .nil => .nil
  | _, _, 0, .cons _ t => .cons r t
  | _, _, i + 1, .cons q t => .cons q (DqAll.set r i t)
theorem DqAll.rev : ∀ {vs : List V} {ds : List PyData}, DqAll K H vs ds → DqAll K H vs.reverse ds.reverse
  | _, _, .nil => .nil
  | _, _, .cons r t => by
    rw [List.reverse_cons, List.reverse_cons]
    exact (DqAll.rev t).app (.one r)
theorem Dq.int_v {v : V} {i : Int} (h : Dq K H v (.int i)) : v = .int i := by cases h; exact Eq.refl _
theorem Dq.bl_v {v : V} {b : Bool} (h : Dq K H v (.bool b)) : v = .bl b := by cases h; exact Eq.refl _
theorem Dq.non_v {v : V} (h : Dq K H v .none) : v = .non := by cases h; exact Eq.refl _
theorem Dq.lst_v {v : V} {ds : List PyData} (h : Dq K H v (.list ds)) : ∃ a xs, v = .ref a ∧ H a = some (.lst xs) ∧ DqAll K H xs ds := by
  cases h with
  | lst hs ha => exact ⟨_, _, Eq.refl _, hs, ha⟩
theorem Dq.tup_v {v : V} {ds : List PyData} (h : Dq K H v (.tuple ds)) : ∃ a xs, v = .ref a ∧ SqT K H a xs ∧ DqAll K H xs ds := by
  cases h with
  | tup hs ha => exact ⟨_, _, Eq.refl _, hs, ha⟩
theorem DqAll.ints_v : ∀ {vs : List V} {ns : List Int}, DqAll K H vs (ns.map PyData.int) → vs = ns.map V.int
  | _, [], h => by cases h; exact Eq.refl _
  | _, n :: ns, h => by
    cases h with
    | cons h1 h2 =>
      rw [h1.int_v, DqAll.ints_v h2]
      exact Eq.refl _
theorem DqAll.bools_v : ∀ {vs : List V} {bs : List Bool}, DqAll K H vs (bs.map PyData.bool) → vs = bs.map V.bl
  | _, [], h => by cases h; exact Eq.refl _
  | _, n :: ns, h => by
    cases h with
    | cons h1 h2 =>
      rw [h1.bl_v, DqAll.bools_v h2]
      exact Eq.refl _
theorem dp_ints (K : PySem.W.Frag) (H : Hp) : ∀ ns : List Int, DqAll K H (ns.map V.int) (ns.map PyData.int)
  | [] => .nil
  | _ :: ns => .cons (.int _) (dp_ints K H ns)
end
end L2
/-! TwB: what an expression comes to in a context that is fixed; tests, arguments, targets, statements. -/
namespace TW
open PySem L2
/-! ### the semantic readings -/
section
variable {X : Cx}
def WE (X : Cx) (e : Expr) : TE := fun σ H Q => ∀ (pins : List (Addr × Obj)) (s : Shared), Inv X pins σ H s → wpAny (model X.prog X.w) X.A (eval e X.env) (EP X pins σ Q) X.xe s
def WT (X : Cx) (e : Expr) : TT := fun σ H Q => ∀ (pins : List (Addr × Obj)) (s : Shared), Inv X pins σ H s → wpAny (model X.prog X.w) X.A (isTrue e X.env (eval e X.env)) (TP X pins σ Q) X.xe s
def WW (X : Cx) (e : Expr) : TT := fun σ H Q => ∀ (whole : Sem Value) (pins : List (Addr × Obj)) (s : Shared), Inv X pins σ H s → wpAny (model X.prog X.w) X.A (isTrue e X.env whole) (TP X pins σ Q) X.xe s
def WA (X : Cx) (es : List Expr) : TA := fun σ H Q => ∀ (pos : Pos) (pins : List (Addr × Obj)) (s : Shared), Inv X pins σ H s → wpAny (model X.prog X.w) X.A (spliced (backTo pos (starEach es X.env))) (AP X pins σ Q) X.xe s
def WS (X : Cx) (st : Stmt) : TS := fun D σ H => ∀ (pins : List (Addr × Obj)) (s : Shared), Inv X pins σ H s → wpAny (model X.prog X.w) X.A (exec st X.env) (SP X pins D) X.xe s
def WSs (X : Cx) (st : List Stmt) : TS := fun D σ H => ∀ (pins : List (Addr × Obj)) (s : Shared), Inv X pins σ H s → wpAny (model X.prog X.w) X.A (execs st X.env) (SP X pins D) X.xe s
def WG (X : Cx) (tg : Expr) : TG := fun v σ H Q => ∀ (pins : List (Addr × Obj)) (s : Shared) (u : Value), Inv X pins σ H s → RelV v u →
  wpAny (model X.prog X.w) X.A (assign tg X.env u) (fun _ s' => ∃ σ' H', Inv X pins σ' H' s' ∧ Q σ' H') X.xe s
def WI (X : Cx) (tg iter : Expr) : TI := fun σ H R => ∀ (pins : List (Addr × Obj)) (s : Shared), Inv X pins σ H s →
  wpAny (model X.prog X.w) X.A (eval iter X.env) (fun v s1 => wpAny (model X.prog X.w) X.A (pyIter v) (PIE X pins σ tg R) X.xe s1) X.xe s
variable {e : Expr} {es : List Expr} {st : Stmt} {sts : List Stmt} {tg iter : Expr} {σ : L2.St} {H : Hp}
theorem peW : PE X e (WE X e) := ⟨fun pins s _ _ _ I h => h pins s I⟩
theorem ptW : PT X e (WT X e) := ⟨fun pins s _ _ _ I h => h pins s I⟩
theorem pwW : PW X e (WW X e) := ⟨fun wh pins s _ _ _ I h => h wh pins s I⟩
theorem paW : PA X es (WA X es) := ⟨fun pos pins s _ _ _ I h => h pos pins s I⟩
theorem psW : PS X st (WS X st) := ⟨fun pins s _ _ _ I h => h pins s I⟩
theorem pssW : PSs X sts (WSs X sts) := ⟨fun pins s _ _ _ I h => h pins s I⟩
theorem pgW : PG X tg (WG X tg) := ⟨fun pins s _ _ _ u _ I r h => h pins s u I r⟩
theorem piW : PI X tg iter (WI X tg iter) := ⟨fun pins s _ _ _ I h => h pins s I⟩
theorem we_of {t : TE} {Q : VK} (h : PE X e t) (q : t σ H Q) : WE X e σ H Q := fun pins s I => h.run pins s σ H Q I q
theorem wt_of {t : TT} {Q : Bool → Hp → Prop} (h : PT X e t) (q : t σ H Q) : WT X e σ H Q := fun pins s I => h.run pins s σ H Q I q
theorem ww_of {t : TT} {Q : Bool → Hp → Prop} (h : PW X e t) (q : t σ H Q) : WW X e σ H Q := fun wh pins s I => h.run wh pins s σ H Q I q
theorem wa_of {t : TA} {Q : List V → Hp → Prop} (h : PA X es t) (q : t σ H Q) : WA X es σ H Q := fun pos pins s I => h.run pos pins s σ H Q I q
theorem ws_of {t : TS} {D : Ends} (h : PS X st t) (q : t D σ H) : WS X st D σ H := fun pins s I => h.run pins s σ H D I q
theorem wss_of {t : TS} {D : Ends} (h : PSs X sts t) (q : t D σ H) : WSs X sts D σ H := fun pins s I => h.run pins s σ H D I q
theorem wg_of {t : TG} {v : V} {Q : L2.St → Hp → Prop} (h : PG X tg t) (q : t v σ H Q) : WG X tg v σ H Q := fun pins s u I r => h.run pins s σ H v u Q I r q
theorem wi_of {t : TI} {R : It → Hp → Prop} (h : PI X tg iter t) (q : t σ H R) : WI X tg iter σ H R := fun pins s I => h.run pins s σ H R I q
end
/-! ### what is true of a value while the heap grows -/
class Mono (P : Hp → V → Prop) : Prop where
  up : ∀ {B C : Hp} {v : V}, Same B C → P B v → P C v
class MonoL (P : Hp → List V → Prop) : Prop where
  up : ∀ {B C : Hp} {v : List V}, Same B C → P B v → P C v
def DD (K : PySem.W.Frag) (d : PyData) : Hp → V → Prop := fun B v => Dq K B v d
instance {K : PySem.W.Frag} {d : PyData} : Mono (DD K d) := ⟨fun s h => Dq.up s _ _ h⟩
def DDs (K : PySem.W.Frag) (ds : List PyData) : Hp → List V → Prop := fun B vs => DqAll K B vs ds
instance {K : PySem.W.Frag} {ds : List PyData} : MonoL (DDs K ds) := ⟨fun s h => DqAll.up s _ _ h⟩
/-- the object o at a -/
def At (a : Addr) (o : HO) : Hp → V → Prop := fun B v => v = .ref a ∧ B a = some o
instance {a : Addr} {o : HO} : Mono (At a o) := ⟨fun s h => ⟨h.1, s _ _ h.2⟩⟩
def Is (v : V) : Hp → V → Prop := fun _ u => u = v
instance {v : V} : Mono (Is v) := ⟨fun _ h => h⟩
def XE (X : Cx) (e : Expr) (σ : L2.St) (B : Hp) (P : Hp → V → Prop) : Prop := ∀ H, Same B H → ∀ Q : VK, (∀ v B' H', Gr B H B' H' → P B' v → Q v H') → WE X e σ H Q
def XT (X : Cx) (e : Expr) (σ : L2.St) (B : Hp) (b : Bool) : Prop := ∀ H, Same B H → ∀ Q : Bool → Hp → Prop, (∀ B' H', Gr B H B' H' → Q b H') → WT X e σ H Q
def XW (X : Cx) (e : Expr) (σ : L2.St) (B : Hp) (b : Bool) : Prop := ∀ H, Same B H → ∀ Q : Bool → Hp → Prop, (∀ B' H', Gr B H B' H' → Q b H') → WW X e σ H Q
def XA (X : Cx) (es : List Expr) (σ : L2.St) (B : Hp) (P : Hp → List V → Prop) : Prop := ∀ H, Same B H → ∀ Q : List V → Hp → Prop, (∀ v B' H', Gr B H B' H' → P B' v → Q v H') → WA X es σ H Q
def XG (X : Cx) (tg : Expr) (v : V) (σ : L2.St) (B : Hp) (σ2 : L2.St) : Prop := ∀ H, Same B H → ∀ Q : L2.St → Hp → Prop, Q σ2 H → WG X tg v σ H Q
section
variable {X : Cx} {e a b c : Expr} {es : List Expr} {σ : L2.St} {B C H : Hp} {P P1 P2 : Hp → V → Prop} {p q : Bool} {pos pos' : Pos} {d d1 d2 : PyData} {ds : List PyData}
theorem XE.up [Mono P] (h : XE X e σ B P) (s : Same B C) : XE X e σ C P := fun H ch Q k =>
  h H (s.trans ch) Q fun v B' H' g pv => k v _ H' (g.wide s ch) (Mono.up uni_l pv)
theorem XT.up (h : XT X e σ B p) (s : Same B C) : XT X e σ C p := fun H ch Q k => h H (s.trans ch) Q fun B' H' g => k _ H' (g.wide s ch)
theorem XW.up (h : XW X e σ B p) (s : Same B C) : XW X e σ C p := fun H ch Q k => h H (s.trans ch) Q fun B' H' g => k _ H' (g.wide s ch)
theorem XA.up {P : Hp → List V → Prop} [MonoL P] (h : XA X es σ B P) (s : Same B C) : XA X es σ C P := fun H ch Q k =>
  h H (s.trans ch) Q fun v B' H' g pv => k v _ H' (g.wide s ch) (MonoL.up uni_l pv)
theorem XE.imp (h : XE X e σ B P1) (f : ∀ C v, Same B C → P1 C v → P2 C v) : XE X e σ B P2 := fun H s Q k => h H s Q fun v B' H' g pv => k v B' H' g (f _ v g.bb pv)
theorem XE.data (h : XE X e σ B (DD X.K d1)) (q : d1 = d2) : XE X e σ B (DD X.K d2) := q ▸ h
theorem XT.is (h : XT X e σ B p) (z : p = q) : XT X e σ B q := z ▸ h
/-! names and constants -/
theorem x_var {v : V} (i : Nat) {x : Str} (h : σ[i]? = some (some v)) (pr : P B v) (hN : X.N[i]? = some x := by rfl) (hv : Vis X.env.scope x := by first | exact Or.inl rfl | exact Or.inr (Or.inl rfl) | exact Or.inr (Or.inr rfl)) (hd : (x == ("__debug__" : Str)) = false := by decide)
    (hcd : (x == ("__classdict__" : Str)) = false := by decide) : XE X (.Name x pos) σ B P := fun H s Q k => we_of (pe_var hN hv hd hcd) ⟨v, h, k v B H (.rfl s) pr⟩
theorem x_int {i : Int} {j} : XE X (.Constant (.int i) j pos) σ B (DD X.K (.int i)) := fun H s Q k => we_of pe_int (k _ B H (.rfl s) (.int i))
theorem x_bl {i : Bool} {j} : XE X (.Constant (.bool i) j pos) σ B (DD X.K (.bool i)) := fun H s Q k => we_of pe_bl (k _ B H (.rfl s) (.bl i))
theorem x_non {j} : XE X (.Constant .none j pos) σ B (DD X.K .none) := fun H s Q k => we_of pe_non (k _ B H (.rfl s) .non)
theorem x_str {i : Str} {j} : XE X (.Constant (.str i) j pos) σ B (DD X.K (.str i)) := fun H s Q k => we_of pe_str (k _ B H (.rfl s) (.str i))
theorem x_glob {x : Str} {v : V} {u : Value} (hg : Gl X x) (hm : X.mg x = some u) (r : RelV v u) (pr : P B v) (hd : (x == ("__debug__" : Str)) = false := by decide) : XE X (.Name x pos) σ B P :=
  fun H s Q k => we_of (pe_glob hg hm r hd) (k v B H (.rfl s) pr)
/-! operators -/
theorem x_bin {r : R2} {op : Operator} [Mono P1] [Mono P2] (ho : OpR X (binaryOp op) r) (ha : XE X a σ B P1) (hb : XE X b σ B P2)
    (hr : ∀ C H v u, Same B C → Same C H → P1 C v → P2 C u → ∀ Q : VK, (∀ z C' H', Gr C H C' H' → P C' z → Q z H') → r v u H Q) : XE X (.BinOp a op b pos) σ B P := fun H s Q k => by
  refine we_of (pe_op ho peW peW) ?_
  refine ha H s _ fun v B1 H1 g1 p1 => ?_
  refine hb.up g1.bb H1 g1.bh _ fun u B2 H2 g2 p2 => ?_
  exact hr B2 H2 v u (g1.bb.trans g2.bb) g2.bh (Mono.up g2.bb p1) p2 Q fun z B3 H3 g3 p3 => k z B3 H3 ((g1.trans g2).trans g3) p3
theorem x_un {r : V → Hp → VK → Prop} {op : UnaryOp} (ho : UnR X (unaryOp op) r) (ha : XE X a σ B P1)
    (hr : ∀ C H v, Same B C → Same C H → P1 C v → ∀ Q : VK, (∀ z C' H', Gr C H C' H' → P C' z → Q z H') → r v H Q) : XE X (.UnaryOp op a pos) σ B P := fun H s Q k => by
  refine we_of (pe_un ho peW) ?_
  refine ha H s _ fun v B1 H1 g1 p1 => ?_
  exact hr B1 H1 v g1.bb g1.bh p1 Q fun z B3 H3 g3 p3 => k z B3 H3 (g1.trans g3) p3
abbrev XI (X : Cx) (e : Expr) (σ : L2.St) (B : Hp) (i : Int) : Prop := XE X e σ B (DD X.K (.int i))
abbrev XB (X : Cx) (e : Expr) (σ : L2.St) (B : Hp) (i : Bool) : Prop := XE X e σ B (DD X.K (.bool i))
section
variable {i j : Int}
theorem x_opI0 {op : Operator} {g : Int → Int → Int} (ho : OpR X (binaryOp op) (rI0 fun i j => .int (g i j))) (ha : XI X a σ B i) (hb : XI X b σ B j) : XI X (.BinOp a op b pos) σ B (g i j) :=
  x_bin ho ha hb fun C H v u _ s pv pu Q k => ⟨i, j, Dq.int_v pv, Dq.int_v pu, k _ C H (.rfl s) (.int _)⟩
theorem x_opI {op : Operator} {R : Int → Int → Prop} {g : Int → Int → Int} (ho : OpR X (binaryOp op) (rI R fun i j => .int (g i j))) (ha : XI X a σ B i) (hb : XI X b σ B j) (hc : R i j) : XI X (.BinOp a op b pos) σ B (g i j) :=
  x_bin ho ha hb fun C H v u _ s pv pu Q k => ⟨i, j, Dq.int_v pv, Dq.int_v pu, hc, k _ C H (.rfl s) (.int _)⟩
theorem x_add (ha : XI X a σ B i) (hb : XI X b σ B j) : XI X (.BinOp a .Add b pos) σ B (i + j) := x_opI0 op_add ha hb
theorem x_sub (ha : XI X a σ B i) (hb : XI X b σ B j) : XI X (.BinOp a .Sub b pos) σ B (i - j) := x_opI0 op_sub ha hb
theorem x_mul (ha : XI X a σ B i) (hb : XI X b σ B j) (hc : CMul i j) : XI X (.BinOp a .Mult b pos) σ B (i * j) := x_opI op_mul ha hb hc
theorem x_mod (ha : XI X a σ B i) (hb : XI X b σ B j) (hc : 0 < j) : XI X (.BinOp a .Mod b pos) σ B (i % j) := x_opI op_mod ha hb hc
theorem x_fdiv (ha : XI X a σ B i) (hb : XI X b σ B j) (hc : CDiv i j) : XI X (.BinOp a .FloorDiv b pos) σ B (i / j) := x_opI op_fdiv ha hb hc
theorem x_pow (ha : XI X a σ B i) (hb : XI X b σ B j) (hc : CPow i j) : XI X (.BinOp a .Pow b pos) σ B (i ^ j.toNat) := x_opI op_pow ha hb hc
theorem x_neg (ha : XI X a σ B i) : XI X (.UnaryOp .USub a pos) σ B (-i) :=
  x_un un_neg ha fun C H v _ s pv Q k => ⟨i, Dq.int_v pv, k _ C H (.rfl s) (.int _)⟩
end
/-- xs + ys, lists and tuples -/
theorem x_cat {es fs : List PyData} (ha : XE X a σ B (DD X.K (.list es))) (hb : XE X b σ B (DD X.K (.list fs))) (hl : es.length + fs.length ≤ sizeLine) : XE X (.BinOp a .Add b pos) σ B (DD X.K (.list (es ++ fs))) :=
  x_bin op_cat ha hb fun C H v u bc s pv pu Q k => by
    obtain ⟨l, xs, rfl, h1, r1⟩ := Dq.lst_v pv
    obtain ⟨m, ys, rfl, h2, r2⟩ := Dq.lst_v pu
    refine ⟨l, m, xs, ys, rfl, rfl, s _ _ h1, s _ _ h2, by rw [r1.length, r2.length]; exact hl, fun p hp => k _ _ _ (.new s hp) ?_⟩
    have n := same_new (o := HO.lst (xs ++ ys)) (s.free hp)
    exact .lst upd_same ((DqAll.up n _ _ r1).app (DqAll.up n _ _ r2))
theorem x_catT {es fs : List PyData} (ha : XE X a σ B (DD X.K (.tuple es))) (hb : XE X b σ B (DD X.K (.tuple fs))) (hl : es.length + fs.length ≤ sizeLine) : XE X (.BinOp a .Add b pos) σ B (DD X.K (.tuple (es ++ fs))) :=
  x_bin op_catA ha hb fun C H v u bc s pv pu Q k => by
    obtain ⟨l, xs, rfl, h1, r1⟩ := Dq.tup_v pv
    obtain ⟨m, ys, rfl, h2, r2⟩ := Dq.tup_v pu
    refine ⟨l, m, xs, ys, rfl, rfl, Same.seqT s h1, Same.seqT s h2, by rw [r1.length, r2.length]; exact hl, fun e => ?_, fun _ e => ?_, fun _ _ p hp => k _ _ _ (.new s hp) ?_⟩
    · subst e
      cases r1
      exact k _ C H (.rfl s) (.tup h2 r2)
    · subst e
      cases r2
      refine k _ C H (.rfl s) ?_
      show Dq X.K C (.ref l) (.tuple (es ++ []))
      rw [List.append_nil]
      exact .tup h1 r1
    · have n := same_new (o := HO.tup (xs ++ ys)) (s.free hp)
      exact .tup (.of upd_same) ((DqAll.up n _ _ r1).app (DqAll.up n _ _ r2))
/-! comparisons -/
/-- the comparison of any two values that are these data -/
def CmpOk (X : Cx) (op : CmpOp) (d1 d2 : PyData) (c : Bool) : Prop := ∃ r : R2, OpR X (compareOp op) r ∧ ∀ (C H : Hp) (v u : V), Same C H → Dq X.K C v d1 → Dq X.K C u d2 → ∀ Q : VK, Q (.bl c) H → r v u H Q
theorem c_lt {i j : Int} : CmpOk X .Lt (.int i) (.int j) (decide (i < j)) := ⟨_, op_lt, fun C H v u s pv pu Q q => ⟨i, j, pv.int_v, pu.int_v, q⟩⟩
theorem c_le {i j : Int} : CmpOk X .LtE (.int i) (.int j) (decide (i ≤ j)) := ⟨_, op_le, fun C H v u s pv pu Q q => ⟨i, j, pv.int_v, pu.int_v, q⟩⟩
theorem c_gt {i j : Int} : CmpOk X .Gt (.int i) (.int j) (decide (j < i)) := ⟨_, op_gt, fun C H v u s pv pu Q q => ⟨i, j, pv.int_v, pu.int_v, q⟩⟩
theorem c_ge {i j : Int} : CmpOk X .GtE (.int i) (.int j) (decide (j ≤ i)) := ⟨_, op_ge, fun C H v u s pv pu Q q => ⟨i, j, pv.int_v, pu.int_v, q⟩⟩
theorem c_eq (hu : X.A.units + 64 < cLine) (s1 : SeqAt.shaped d1 = true) (s2 : SeqAt.shaped d2 = true) : CmpOk X .Eq d1 d2 (PyData.eqv d1 d2) :=
  ⟨_, op_eqD hu, fun C H v u s pv pu Q q => ⟨d1, d2, Dq.dp _ _ (Dq.up s _ _ pv), Dq.dp _ _ (Dq.up s _ _ pu), s1, s2, q⟩⟩
theorem c_ne (hu : X.A.units + 64 < cLine) (s1 : SeqAt.shaped d1 = true) (s2 : SeqAt.shaped d2 = true) : CmpOk X .NotEq d1 d2 (!PyData.eqv d1 d2) :=
  ⟨_, op_neD hu, fun C H v u s pv pu Q q => ⟨d1, d2, Dq.dp _ _ (Dq.up s _ _ pv), Dq.dp _ _ (Dq.up s _ _ pu), s1, s2, q⟩⟩
theorem c_isN : CmpOk X .Is d1 .none (match d1 with | .none => true | _ => false) := ⟨_, op_isN, fun C H v u s pv pu Q q => ⟨pu.non_v, by
  cases pv <;> exact q⟩⟩
theorem c_notN : CmpOk X .IsNot d1 .none (match d1 with | .none => false | _ => true) := ⟨_, op_notN, fun C H v u s pv pu Q q => ⟨pu.non_v, by
  cases pv <;> exact q⟩⟩
theorem x_cmp {op : CmpOp} (o : CmpOk X op d1 d2 p) (ha : XE X a σ B (DD X.K d1)) (hb : XE X b σ B (DD X.K d2)) (hm : behindInMarks op b = false := by first | exact nomark _ | rfl) : XB X (.Compare a [op] [b] pos) σ B p := fun H s Q k => by
  obtain ⟨r, ho, hr⟩ := o
  refine we_of (pe_cmpR ho peW peW hm) ?_
  refine ha H s _ fun v B1 H1 g1 p1 => ?_
  refine hb.up g1.bb H1 g1.bh _ fun u B2 H2 g2 p2 => ?_
  exact hr B2 H2 v u g2.bh (Dq.up g2.bb _ _ p1) p2 Q (k _ B2 H2 (g1.trans g2) (.bl _))
theorem xt_cmp {op : CmpOp} (o : CmpOk X op d1 d2 p) (ha : XE X a σ B (DD X.K d1)) (hb : XE X b σ B (DD X.K d2)) (hm : behindInMarks op b = false := by first | exact nomark _ | rfl) : XT X (.Compare a [op] [b] pos) σ B p := fun H s Q k => by
  obtain ⟨r, ho, hr⟩ := o
  refine wt_of (pt_cmpR ho peW peW hm) ?_
  refine ha H s _ fun v B1 H1 g1 p1 => ?_
  refine hb.up g1.bb H1 g1.bh _ fun u B2 H2 g2 p2 => ?_
  exact hr B2 H2 v u g2.bh (Dq.up g2.bb _ _ p1) p2 _ ⟨p, Eq.refl _, k B2 H2 (g1.trans g2)⟩
/-- a < b < c -/
theorem x_chain {op op' : CmpOp} {d3 : PyData} (o : CmpOk X op d1 d2 p) (o' : CmpOk X op' d2 d3 q) (ha : XE X a σ B (DD X.K d1)) (hb : XE X b σ B (DD X.K d2)) (hc : XE X c σ B (DD X.K d3)) (hm : lastMarks [op, op'] [b, c] = false := by with_unfolding_all rfl) : XB X (.Compare a [op, op'] [b, c] pos) σ B (p && q) := fun H s Q k => by
  obtain ⟨r, ho, hr⟩ := o
  obtain ⟨r', ho', hr'⟩ := o'
  refine we_of (pe_chain ho ho' peW peW peW hm) ?_
  refine ha H s _ fun v B1 H1 g1 p1 => ?_
  refine hb.up g1.bb H1 g1.bh _ fun u B2 H2 g2 p2 => ?_
  refine hr B2 H2 v u g2.bh (Dq.up g2.bb _ _ p1) p2 _ ⟨p, Eq.refl _, ?_⟩
  cases p with
  | false => exact iteF (k _ B2 H2 (g1.trans g2) (.bl _))
  | true =>
    refine iteT (hc.up (g1.bb.trans g2.bb) H2 g2.bh _ fun w B3 H3 g3 p3 => ?_)
    exact hr' B3 H3 u w g3.bh (Dq.up g3.bb _ _ p2) p3 Q (k _ B3 H3 ((g1.trans g2).trans g3) (.bl _))
theorem xt_chain {op op' : CmpOp} {d3 : PyData} (o : CmpOk X op d1 d2 p) (o' : CmpOk X op' d2 d3 q) (ha : XE X a σ B (DD X.K d1)) (hb : XE X b σ B (DD X.K d2)) (hc : XE X c σ B (DD X.K d3)) (hm : lastMarks [op, op'] [b, c] = false := by with_unfolding_all rfl) : XT X (.Compare a [op, op'] [b, c] pos) σ B (p && q) := fun H s Q k => by
  obtain ⟨r, ho, hr⟩ := o
  obtain ⟨r', ho', hr'⟩ := o'
  refine wt_of (pt_chain ho ho' peW peW peW hm) ?_
  refine ha H s _ fun v B1 H1 g1 p1 => ?_
  refine hb.up g1.bb H1 g1.bh _ fun u B2 H2 g2 p2 => ?_
  refine hr B2 H2 v u g2.bh (Dq.up g2.bb _ _ p1) p2 _ ⟨p, Eq.refl _, ?_⟩
  cases p with
  | false => exact iteF ⟨_, Eq.refl _, k B2 H2 (g1.trans g2)⟩
  | true =>
    refine iteT (hc.up (g1.bb.trans g2.bb) H2 g2.bh _ fun w B3 H3 g3 p3 => ?_)
    exact hr' B3 H3 u w g3.bh (Dq.up g3.bb _ _ p2) p3 _ ⟨_, Eq.refl _, k B3 H3 ((g1.trans g2).trans g3)⟩
end
end TW
/-! TwC: and, or, not, subscripts, displays, calls, fields. -/
namespace TW
open PySem L2
section
variable {X : Cx} {e a b c : Expr} {es : List Expr} {rest : List Expr} {σ : L2.St} {B C H : Hp} {P P1 P2 : Hp → V → Prop} {p q : Bool} {pos pos' pp : Pos} {d d1 d2 : PyData} {ds : List PyData}
/-! ### and, or, not -/
theorem x_and1 {op} (h : XE X a σ B P) : XE X (.BoolOp op [a] pos) σ B P := fun H s Q k => we_of (pe_one peW) (h H s Q k)
theorem x_and (ha : XB X a σ B p) (hb : p = true → XB X (.BoolOp .And (b :: rest) pos) σ B q) : XB X (.BoolOp .And (a :: b :: rest) pos) σ B (p && q) := fun H s Q k => by
  refine we_of (pe_and peW peW) (ha H s _ fun v B1 H1 g1 p1 => ⟨p, Dq.bl_v p1, ?_⟩)
  cases p with
  | false => exact iteF (k _ B1 H1 g1 (.bl _))
  | true => exact iteT (((hb rfl).up g1.bb) H1 g1.bh Q fun v B2 H2 g2 p2 => k v B2 H2 (g1.trans g2) p2)
theorem x_or (ha : XB X a σ B p) (hb : p = false → XB X (.BoolOp .Or (b :: rest) pos) σ B q) : XB X (.BoolOp .Or (a :: b :: rest) pos) σ B (p || q) := fun H s Q k => by
  refine we_of (pe_or peW peW) (ha H s _ fun v B1 H1 g1 p1 => ⟨p, Dq.bl_v p1, ?_⟩)
  cases p with
  | true => exact iteT (k _ B1 H1 g1 (.bl _))
  | false => exact iteF (((hb rfl).up g1.bb) H1 g1.bh Q fun v B2 H2 g2 p2 => k v B2 H2 (g1.trans g2) p2)
theorem x_not (ha : XB X a σ B p) : XB X (.UnaryOp .Not a pos) σ B (!p) := fun H s Q k => we_of (pe_not peW) (ha H s _ fun v B1 H1 g1 p1 => ⟨p, Dq.bl_v p1, k _ B1 H1 g1 (.bl _)⟩)
theorem xw_and1 (h : XT X a σ B p) : XW X (.BoolOp .And [a] pos) σ B p := fun H s Q k => ww_of (pw_and1 ptW) (h H s Q k)
theorem xw_or1 (h : XT X a σ B p) : XW X (.BoolOp .Or [a] pos) σ B p := fun H s Q k => ww_of (pw_or1 ptW) (h H s Q k)
theorem xw_and (ha : XT X a σ B p) (hb : p = true → XW X (.BoolOp .And (b :: rest) pos) σ B q) : XW X (.BoolOp .And (a :: b :: rest) pos) σ B (p && q) := fun H s Q k => by
  refine ww_of (pw_and ptW pwW) (ha H s _ fun B1 H1 g1 => ?_)
  cases p with
  | false => exact iteF (k B1 H1 g1)
  | true => exact iteT (((hb rfl).up g1.bb) H1 g1.bh Q fun B2 H2 g2 => k B2 H2 (g1.trans g2))
theorem xw_or (ha : XT X a σ B p) (hb : p = false → XW X (.BoolOp .Or (b :: rest) pos) σ B q) : XW X (.BoolOp .Or (a :: b :: rest) pos) σ B (p || q) := fun H s Q k => by
  refine ww_of (pw_or ptW pwW) (ha H s _ fun B1 H1 g1 => ?_)
  cases p with
  | true => exact iteT (k B1 H1 g1)
  | false => exact iteF (((hb rfl).up g1.bb) H1 g1.bh Q fun B2 H2 g2 => k B2 H2 (g1.trans g2))
theorem xt_w (h : XW X e σ B p) : XT X e σ B p := fun H s Q k => wt_of pwW.pt (h H s Q k)
theorem xt_not (ha : XT X a σ B p) : XT X (.UnaryOp .Not a pos) σ B (!p) := fun H s Q k => wt_of (pt_not ptW) (ha H s _ fun B1 H1 g1 => k B1 H1 g1)
/-- an expression that is a truth value, as a test -/
theorem xt_v (h : XB X e σ B p) (he : ∀ whole, isTrue e X.env whole = (do let v ← whole; standAt e.pos; holding [v] (truthy v)) := by intro _; rfl) : XT X e σ B p := fun H s Q k =>
  wt_of (pt_val peW he) (h H s _ fun v B1 H1 g1 p1 => ⟨p, Dq.bl_v p1, k B1 H1 g1⟩)
/-- a list, a tuple as a test -/
theorem xt_seq (h : XE X e σ B (DD X.K d)) (hd : d = .list ds ∨ d = .tuple ds) (he : ∀ whole, isTrue e X.env whole = (do let v ← whole; standAt e.pos; holding [v] (truthy v)) := by intro _; rfl) : XT X e σ B (!ds.isEmpty) := fun H s Q k => by
  refine wt_of (pt_truth peW he) (h H s _ fun v B1 H1 g1 p1 => ⟨!ds.isEmpty, ?_, k B1 H1 g1⟩)
  have emp : ∀ {xs : List V} {ds : List PyData}, DqAll X.K B1 xs ds → (!ds.isEmpty) = !xs.isEmpty := fun r => by cases r <;> rfl
  rcases hd with rfl | rfl
  · obtain ⟨l, xs, rfl, h1, r1⟩ := Dq.lst_v p1
    exact .inl ⟨xs, .of (g1.bh _ _ h1), emp r1⟩
  · obtain ⟨l, xs, rfl, h1, r1⟩ := Dq.tup_v p1
    exact .inr (.inl ⟨xs, Same.seqT g1.bh h1, emp r1⟩)
theorem x_if {t : Bool} (hc : XT X c σ B t) (h1 : t = true → XE X a σ B P) (h2 : t = false → XE X b σ B P) [Mono P] : XE X (.IfExp c a b pos) σ B P := fun H s Q k => by
  refine we_of (pe_ifExp ptW peW peW) (hc H s _ fun B1 H1 g1 => ?_)
  cases t with
  | true => exact iteT (((h1 rfl).up g1.bb) H1 g1.bh Q fun v B2 H2 g2 p2 => k v B2 H2 (g1.trans g2) p2)
  | false => exact iteF (((h2 rfl).up g1.bb) H1 g1.bh Q fun v B2 H2 g2 p2 => k v B2 H2 (g1.trans g2) p2)
/-! ### subscripts -/
theorem at_of {ds : List PyData} {vs : List V} {K : PySem.W.Frag} (r : DqAll K B vs ds) {i : Int} (h : atI ds i = some d) : ∃ v, atI vs i = some v ∧ Dq K B v d := by
  unfold atI at h ⊢
  rw [r.length]
  cases q : ixN ds.length i with
  | none => rw [q] at h; cases h
  | some j =>
    rw [q] at h
    exact r.get h
theorem x_ix {i : Int} (ha : XE X a σ B (DD X.K d)) (hd : d = .list ds ∨ d = .tuple ds) (hb : XI X b σ B i) (h : atI ds i = some d1) (hs : PlainIx b := by intro _ _; rfl) : XE X (.Subscript a b pos) σ B (DD X.K d1) := fun H s Q k => by
  refine we_of (pe_ix ix_seq peW peW hs) ?_
  refine ha H s _ fun v B1 H1 g1 p1 => ?_
  refine hb.up g1.bb H1 g1.bh _ fun u B2 H2 g2 p2 => ?_
  have hu := Dq.int_v p2
  subst hu
  rcases hd with rfl | rfl
  · obtain ⟨l, xs, rfl, h1, r1⟩ := Dq.lst_v p1
    obtain ⟨w, hw, rw'⟩ := at_of r1 h
    exact .inl ⟨l, xs, i, w, rfl, rfl, .of (g2.hh _ _ (g1.bh _ _ h1)), hw, k w B2 H2 (g1.trans g2) (Dq.up g2.bb _ _ rw')⟩
  · obtain ⟨l, xs, rfl, h1, r1⟩ := Dq.tup_v p1
    obtain ⟨w, hw, rw'⟩ := at_of r1 h
    exact .inr (.inl ⟨l, xs, i, w, rfl, rfl, Same.seqT g2.hh (Same.seqT g1.bh h1), hw, k w B2 H2 (g1.trans g2) (Dq.up g2.bb _ _ rw')⟩)
theorem x_ixL {i : Int} (ha : XE X a σ B (DD X.K (.list ds))) (hb : XI X b σ B i) (h : atI ds i = some d1) (hs : PlainIx b := by intro _ _; rfl) : XE X (.Subscript a b pos) σ B (DD X.K d1) := x_ix ha (.inl rfl) hb h hs
theorem x_ixT {i : Int} (ha : XE X a σ B (DD X.K (.tuple ds))) (hb : XI X b σ B i) (h : atI ds i = some d1) (hs : PlainIx b := by intro _ _; rfl) : XE X (.Subscript a b pos) σ B (DD X.K d1) := x_ix ha (.inr rfl) hb h hs
/-! ### arguments, displays -/
abbrev XD (X : Cx) (es : List Expr) (σ : L2.St) (B : Hp) (ds : List PyData) : Prop := XA X es σ B (DDs X.K ds)
theorem xa_nil {P : Hp → List V → Prop} (h : P B []) : XA X [] σ B P := fun H s Q k => wa_of pa_nil (k [] B H (.rfl s) h)
theorem xd_nil : XD X [] σ B [] := xa_nil .nil
theorem xa_cons {P0 : Hp → V → Prop} {PL P : Hp → List V → Prop} [Mono P0] [MonoL PL] (h : XE X e σ B P0) (hr : XA X es σ B PL) (hp : ∀ C v vs, Same B C → P0 C v → PL C vs → P C (v :: vs)) (hs : starEach (e :: es) X.env = (false, eval e X.env) :: starEach es X.env := by rfl) : XA X (e :: es) σ B P := fun H s Q k => by
  refine wa_of (pa_cons peW paW hs) (h H s _ fun v B1 H1 g1 p1 => ?_)
  refine hr.up g1.bb H1 g1.bh _ fun vs B2 H2 g2 p2 => k _ B2 H2 (g1.trans g2) (hp B2 v vs (g1.bb.trans g2.bb) (Mono.up g2.bb p1) p2)
theorem xd_cons (h : XE X e σ B (DD X.K d)) (hr : XD X es σ B ds) (hs : starEach (e :: es) X.env = (false, eval e X.env) :: starEach es X.env := by rfl) : XD X (e :: es) σ B (d :: ds) :=
  xa_cons h hr (fun _ _ _ _ a b => DqAll.cons a b) hs
theorem x_tup {x1} (h : XD X es σ B ds) (hl : ds.length ≤ sizeLine := by exact Nat.le_of_ble_eq_true rfl) : XE X (.Tuple es x1 pos) σ B (DD X.K (.tuple ds)) := fun H s Q k => by
  refine we_of (pe_tup paW) (h H s _ fun vs B1 H1 g1 p1 => ⟨by rw [DqAll.length p1]; exact hl, fun p hp => ?_⟩)
  have n := same_new (o := HO.tup vs) (g1.bh.free hp)
  exact k _ _ _ (g1.trans (.new g1.bh hp)) (.tup (.of upd_same) (DqAll.up n _ _ p1))
theorem x_lst (h : XD X es σ B ds) (hl : ds.length ≤ sizeLine := by exact Nat.le_of_ble_eq_true rfl) : XE X (.List es pos) σ B (DD X.K (.list ds)) := fun H s Q k => by
  refine we_of (pe_lst paW) (h H s _ fun vs B1 H1 g1 p1 => ⟨by rw [DqAll.length p1]; exact hl, fun p hp => ?_⟩)
  have n := same_new (o := HO.lst vs) (g1.bh.free hp)
  exact k _ _ _ (g1.trans (.new g1.bh hp)) (.lst upd_same (DqAll.up n _ _ p1))
/-! ### calls -/
theorem x_callB {id : String} {x : Str} {r : List V → Hp → VK → Prop} {P0 : Hp → List V → Prop} (hc : CallR X (.builtin id) r) (hg : Gl X x) (hm : X.mg x = none) (hv : bootBuiltins x = some (.builtin id)) (ha : XA X (e :: es) σ B P0)
    (hr : ∀ C H vs, Same B C → Same C H → P0 C vs → ∀ Q : VK, (∀ z C' H', Gr C H C' H' → P C' z → Q z H') → r vs H Q) (hn : x ≠ "__name__" := by decide) (hdb : (x == ("__debug__" : Str)) = false := by decide)
    (he : starEach (e :: es) X.env = (false, eval e X.env) :: starEach es X.env := by rfl) (hpl : (backTo pos (starEach es X.env)).any (·.1) = false := by rfl) : XE X (.Call (.Name x pp) (e :: es) [] pos) σ B P := fun H s Q k =>
  we_of (pe_callB hc hg hm hv paW hn hdb he hpl) (ha H s _ fun vs B1 H1 g1 p1 => hr B1 H1 vs g1.bb g1.bh p1 Q fun z B2 H2 g2 p2 => k z B2 H2 (g1.trans g2) p2)
theorem x_callTy {T : String} {x : Str} {r : List V → Hp → VK → Prop} {P0 : Hp → List V → Prop} (hc : CallR X (.type T) r) (hg : Gl X x) (hm : X.mg x = none) (hv : bootBuiltins x = some (.type T)) (ha : XA X (e :: es) σ B P0)
    (hr : ∀ C H vs, Same B C → Same C H → P0 C vs → ∀ Q : VK, (∀ z C' H', Gr C H C' H' → P C' z → Q z H') → r vs H Q) (hn : x ≠ "__name__" := by decide) (hdb : (x == ("__debug__" : Str)) = false := by decide)
    (he : starEach (e :: es) X.env = (false, eval e X.env) :: starEach es X.env := by rfl) (hpl : (backTo pos (starEach es X.env)).any (·.1) = false := by rfl) : XE X (.Call (.Name x pp) (e :: es) [] pos) σ B P := fun H s Q k =>
  we_of (pe_callTy hc hg hm hv paW hn hdb he hpl) (ha H s _ fun vs B1 H1 g1 p1 => hr B1 H1 vs g1.bb g1.bh p1 Q fun z B2 H2 g2 p2 => k z B2 H2 (g1.trans g2) p2)
theorem x_len (hg : Gl X "len") (hm : X.mg "len" = none) (ha : XE X e σ B (DD X.K d)) (hd : d = .list ds ∨ d = .tuple ds) (hs1 : starEach [e] X.env = (false, eval e X.env) :: starEach [] X.env := by rfl) : XI X (.Call (.Name "len" pp) [e] [] pos) σ B (ds.length : Int) :=
  x_callB call_len_seq hg hm boot_len (xd_cons ha xd_nil hs1) (he := hs1) fun C H vs _ s pv Q k => by
    cases pv with
    | cons p1 p2 =>
      cases p2
      rcases hd with rfl | rfl
      · obtain ⟨l, xs, rfl, h1, r1⟩ := Dq.lst_v p1
        exact ⟨l, xs, rfl, .inl (.of (s _ _ h1)), k _ C H (.rfl s) (by rw [r1.length]; exact .int _)⟩
      · obtain ⟨l, xs, rfl, h1, r1⟩ := Dq.tup_v p1
        exact ⟨l, xs, rfl, .inr (Same.seqT s h1), k _ C H (.rfl s) (by rw [r1.length]; exact .int _)⟩
theorem x_lenL (hg : Gl X "len") (hm : X.mg "len" = none) (ha : XE X e σ B (DD X.K (.list ds))) (hs1 : starEach [e] X.env = (false, eval e X.env) :: starEach [] X.env := by rfl) : XI X (.Call (.Name "len" pp) [e] [] pos) σ B (ds.length : Int) := x_len hg hm ha (.inl rfl) hs1
theorem x_lenT (hg : Gl X "len") (hm : X.mg "len" = none) (ha : XE X e σ B (DD X.K (.tuple ds))) (hs1 : starEach [e] X.env = (false, eval e X.env) :: starEach [] X.env := by rfl) : XI X (.Call (.Name "len" pp) [e] [] pos) σ B (ds.length : Int) := x_len hg hm ha (.inr rfl) hs1
theorem ints_at {K : PySem.W.Frag} {v : V} {ns : List Int} (h : Dq K C v (.list (ns.map .int))) : ∃ a, v = .ref a ∧ C a = some (.lst (ns.map V.int)) := by
  obtain ⟨l, xs, rfl, h1, r1⟩ := Dq.lst_v h
  have e := r1.ints_v
  subst e
  exact ⟨l, rfl, h1⟩
theorem bools_at {K : PySem.W.Frag} {v : V} {ns : List Bool} (h : Dq K C v (.list (ns.map .bool))) : ∃ a, v = .ref a ∧ C a = some (.lst (ns.map V.bl)) := by
  obtain ⟨l, xs, rfl, h1, r1⟩ := Dq.lst_v h
  have e := r1.bools_v
  subst e
  exact ⟨l, rfl, h1⟩
theorem x_sum {ns : List Int} (hc : X.calm = true) (hg : Gl X "sum") (hm : X.mg "sum" = none) (ha : XE X e σ B (DD X.K (.list (ns.map .int)))) (hs1 : starEach [e] X.env = (false, eval e X.env) :: starEach [] X.env := by rfl) : XI X (.Call (.Name "sum" pp) [e] [] pos) σ B ns.sum :=
  x_callB (cr_sum hc) hg hm (by decide +kernel) (xd_cons ha xd_nil hs1) (he := hs1) fun C H vs _ s pv Q k => by
    cases pv with
    | cons p1 p2 =>
      cases p2
      obtain ⟨l, rfl, h1⟩ := ints_at p1
      exact ⟨l, ns, rfl, .of (s _ _ h1), k _ C H (.rfl s) (.int _)⟩
theorem x_all {bs : List Bool} (hc : X.calm = true) (hg : Gl X "all") (hm : X.mg "all" = none) (ha : XE X e σ B (DD X.K (.list (bs.map .bool)))) (hs1 : starEach [e] X.env = (false, eval e X.env) :: starEach [] X.env := by rfl) : XB X (.Call (.Name "all" pp) [e] [] pos) σ B (bs.all id) :=
  x_callB (cr_all hc) hg hm (by decide +kernel) (xd_cons ha xd_nil hs1) (he := hs1) fun C H vs _ s pv Q k => by
    cases pv with
    | cons p1 p2 =>
      cases p2
      obtain ⟨l, rfl, h1⟩ := bools_at p1
      exact ⟨l, bs, rfl, .of (s _ _ h1), k _ C H (.rfl s) (.bl _)⟩
theorem x_min {ns : List Int} {m : Int} (hc : X.calm = true) (hg : Gl X "min") (hm : X.mg "min" = none) (ha : XE X e σ B (DD X.K (.list (ns.map .int)))) (hl : 0 < ns.length) (hmin : ∀ k, k ∈ ns → (∀ y, y ∈ ns → k ≤ y) → k = m) (hs1 : starEach [e] X.env = (false, eval e X.env) :: starEach [] X.env := by rfl) : XI X (.Call (.Name "min" pp) [e] [] pos) σ B m :=
  x_callB (cr_min hc) hg hm (by decide +kernel) (xd_cons ha xd_nil hs1) (he := hs1) fun C H vs _ s pv Q k => by
    cases pv with
    | cons p1 p2 =>
      cases p2
      obtain ⟨l, rfl, h1⟩ := ints_at p1
      exact ⟨l, ns, rfl, .of (s _ _ h1), hl, fun i h2 h3 => k _ C H (.rfl s) (by rw [hmin i h2 h3]; exact .int _)⟩
section
variable {i j : Int}
theorem x_max2 (hc : X.calm = true) (hg : Gl X "max") (hm : X.mg "max" = none) (ha : XI X a σ B i) (hb : XI X b σ B j) (hs1 : starEach [a, b] X.env = (false, eval a X.env) :: starEach [b] X.env := by rfl) (hs2 : starEach [b] X.env = (false, eval b X.env) :: starEach [] X.env := by rfl) : XI X (.Call (.Name "max" pp) [a, b] [] pos) σ B (if j > i then j else i) :=
  x_callB (call_max2 hc) hg hm (by decide +kernel) (xd_cons ha (xd_cons hb xd_nil hs2) hs1) (he := hs1) (hpl := by rw [hs2]; rfl) fun C H vs _ s pv Q k => by
    cases pv with
    | cons p1 p2 =>
      cases p2 with
      | cons p2 p3 =>
        cases p3
        exact ⟨i, j, by rw [p1.int_v, p2.int_v], k _ C H (.rfl s) (.int _)⟩
theorem x_min2 (hc : X.calm = true) (hg : Gl X "min") (hm : X.mg "min" = none) (ha : XI X a σ B i) (hb : XI X b σ B j) (hs1 : starEach [a, b] X.env = (false, eval a X.env) :: starEach [b] X.env := by rfl) (hs2 : starEach [b] X.env = (false, eval b X.env) :: starEach [] X.env := by rfl) : XI X (.Call (.Name "min" pp) [a, b] [] pos) σ B (if j < i then j else i) :=
  x_callB (call_min2 hc) hg hm (by decide +kernel) (xd_cons ha (xd_cons hb xd_nil hs2) hs1) (he := hs1) (hpl := by rw [hs2]; rfl) fun C H vs _ s pv Q k => by
    cases pv with
    | cons p1 p2 =>
      cases p2 with
      | cons p2 p3 =>
        cases p3
        exact ⟨i, j, by rw [p1.int_v, p2.int_v], k _ C H (.rfl s) (.int _)⟩
theorem x_toInt (hg : Gl X "int") (hm : X.mg "int" = none) (ha : XI X a σ B i) (hs1 : starEach [a] X.env = (false, eval a X.env) :: starEach [] X.env := by rfl) : XI X (.Call (.Name "int" pp) [a] [] pos) σ B i :=
  x_callTy call_int1 hg hm (by decide +kernel) (xd_cons ha xd_nil hs1) (he := hs1) fun C H vs _ s pv Q k => by
    cases pv with
    | cons p1 p2 =>
      cases p2
      exact .inl ⟨i, by rw [p1.int_v], k _ C H (.rfl s) (.int _)⟩
theorem x_toIntB (hg : Gl X "int") (hm : X.mg "int" = none) (ha : XB X a σ B p) (hs1 : starEach [a] X.env = (false, eval a X.env) :: starEach [] X.env := by rfl) : XI X (.Call (.Name "int" pp) [a] [] pos) σ B (if p then 1 else 0) :=
  x_callTy call_int1 hg hm (by decide +kernel) (xd_cons ha xd_nil hs1) (he := hs1) fun C H vs _ s pv Q k => by
    cases pv with
    | cons p1 p2 =>
      cases p2
      exact .inr ⟨p, by rw [p1.bl_v], k _ C H (.rfl s) (.int _)⟩
end
theorem x_tupleOf (hg : Gl X "tuple") (hm : X.mg "tuple" = none) (ha : XE X a σ B (DD X.K (.list ds))) (hs1 : starEach [a] X.env = (false, eval a X.env) :: starEach [] X.env := by rfl) : XE X (.Call (.Name "tuple" pp) [a] [] pos) σ B (DD X.K (.tuple ds)) :=
  x_callTy call_tuple_of hg hm (by decide +kernel) (xd_cons ha xd_nil hs1) (he := hs1) fun C H vs _ s pv Q k => by
    cases pv with
    | cons p1 p2 =>
      cases p2
      obtain ⟨l, xs, rfl, h1, r1⟩ := Dq.lst_v p1
      refine ⟨l, xs, rfl, .inl ⟨.of (s _ _ h1), fun p hp => k _ _ _ (.new s hp) ?_⟩⟩
      exact .tup (.of upd_same) (DqAll.up (same_new (s.free hp)) _ _ r1)
/-! ### own defs -/
/-- what a def is worth: from A of its arguments, over what stands, to R of its result -/
def SpP {α : Type} (A : α → Hp → List V → Prop) (R : α → Hp → V → Prop) : Sp := fun vs H Q _ => ∃ (x : α) (B : Hp), Same B H ∧ A x B vs ∧ ∀ v B' H', Gr B H B' H' → R x B' v → Q v H'
structure Dn (P : Program) (w : World) (K : PySem.W.Frag) (mg : Str → Option Value) (base : Heap) (CX : CXT) (k : Nat) (x : Str) (ps : List Str) (sp : Sp) : Prop where
  ex : ∃ f fd, FnOk P w K mg base CX k f fd ps sp ∧ mg x = some (.ref f) ∧ PySem.W.keepIn K (.ref f) = true ∧ Binds K fd ps []
theorem x_call {α : Type} {k : Nat} {x : Str} {ps : List Str} {A : α → Hp → List V → Prop} {R : α → Hp → V → Prop} (y : α) (G : Dn X.prog X.w X.K X.mg X.base CX0 k x ps (SpP A R)) (hr : Room k X.A) (hg : Gl X x) (ha : XA X (e :: es) σ B (A y))
    (hdb : (x == ("__debug__" : Str)) = false := by decide) (he : starEach (e :: es) X.env = (false, eval e X.env) :: starEach es X.env := by rfl) (hpl : (backTo pos (starEach es X.env)).any (·.1) = false := by rfl) : XE X (.Call (.Name x pp) (e :: es) [] pos) σ B (R y) := fun H s Q q => by
  obtain ⟨f, fd, F, hm, hk, hb⟩ := G.ex
  refine we_of (pe_call (E := E0) F hr hg hm hk hb .nil pass0 paW hdb he hpl) ?_
  refine ha H s _ fun vs B1 H1 g1 p1 => ⟨y, B1, g1.bh, by rw [List.append_nil]; exact p1, fun v B2 H2 g2 p2 => q v B2 H2 (g1.trans g2) p2⟩
/-! ### fields -/
theorem x_fld {CA : Addr} {f : Str} (ho : XE X e σ B P1) (c : Cls X.K CA) (n : NoAttr X.K CA f) (hf : ∀ C v, Same B C → P1 C v → ∃ a dx fs u, v = .ref a ∧ C a = some (.ins CA dx fs) ∧ fs.lookup f = some u ∧ P C u)
    (hb : attributeBase e f X.env (eval e X.env) = eval e X.env := by rfl) : XE X (.Attribute e f pos) σ B P := fun H s Q k => by
  refine we_of (pe_fld peW hb) (ho H s _ fun v B1 H1 g1 p1 => ?_)
  obtain ⟨x, dx, fs, u, rfl, h1, h2, h3⟩ := hf B1 v g1.bb p1
  exact ⟨x, CA, dx, fs, u, rfl, g1.bh _ _ h1, c, n, h2, k u B1 H1 g1 h3⟩
end
end TW
/-! TwD: statements, targets, what is walked, comprehensions. -/
namespace TW
open PySem L2
/-! ### blocks -/
section
variable {X : Cx} {st : Stmt} {rest sts sts' : List Stmt} {D : Ends} {e a b : Expr} {σ : L2.St} {B C H : Hp} {P P1 P2 : Hp → V → Prop} {p q : Bool} {pos pos' pp : Pos} {d d1 d2 : PyData} {ds : List PyData}
theorem ws_cons (h : WS X st { D with nx := fun σ' H' => WSs X rest D σ' H' } σ H) : WSs X (st :: rest) D σ H := wss_of (pss_cons psW pssW) h
/-- a row that ends in several ways -/
theorem ws_cut (R : L2.St → Hp → Prop) (h : WS X st { D with nx := R } σ H) (k : ∀ σ' H', R σ' H' → WSs X rest D σ' H') : WSs X (st :: rest) D σ H := by
  refine ws_cons fun pins s I => wpAny_mono (h pins s I) (fun f s1 q => ?_) fun _ _ x => x
  cases f with
  | next =>
    obtain ⟨σ', H', J, r⟩ := q
    exact ⟨σ', H', J, k σ' H' r⟩
  | brk => exact q
  | cont => exact q
  | ret u => exact q
theorem ws_one (h : WS X st D σ H) : WSs X [st] D σ H := wss_of (pss_one psW) h
theorem ws_nil (h : D.nx σ H) : WSs X [] D σ H := wss_of pss_nil h
theorem ws_pass (h : D.nx σ H) : WS X (.Pass pos) D σ H := ws_of ps_pass h
theorem ws_cont (h : D.ct σ H) : WS X (.Continue pos) D σ H := ws_of ps_continue h
theorem ws_ret (h : XE X e σ B P) (s : Same B H) (k : ∀ v B' H', Gr B H B' H' → P B' v → D.rt v H') : WS X (.Return (some e) pos) D σ H := ws_of (ps_ret peW) (h H s _ k)
theorem ws_expr (h : XE X e σ B P) (s : Same B H) (k : ∀ v B' H', Gr B H B' H' → P B' v → D.nx σ H') (hs : swapsWith e none pos.line X.env = pure false := by rfl) : WS X (.Expr e pos) D σ H := ws_of (ps_expr peW hs) (h H s _ k)
theorem ws_set {x : Str} (i : Nat) (h : XE X e σ B P) (s : Same B H) (k : ∀ v B' H', Gr B H B' H' → P B' v → D.nx (σ.set i (some v)) H') (hN : X.N.Nodup := by exact FnScope.nd (by assumption)) (hi : X.N[i]? = some x := by rfl) (hx : Loc X.env.scope x := by first | exact Or.inl rfl | exact Or.inr rfl)
    (hs : swapsWith e (some (.Name x pos')) pos.line X.env = pure false := by rfl) (hf : X.fn x = true ∨ X.env.scope.names.lookup x = some .local := by first | exact .inl rfl | exact .inr rfl | assumption) : WS X (.Assign [.Name x pos'] e pos) D σ H :=
  ws_of (ps_set hN hi hx peW hs hf) (h H s _ k)
theorem ws_if {c : Expr} {t : Bool} (h : XT X c σ B t) (s : Same B H) (k1 : t = true → ∀ B' H', Gr B H B' H' → WSs X sts D σ H') (k2 : t = false → ∀ B' H', Gr B H B' H' → WSs X sts' D σ H') : WS X (.If c sts sts' pos) D σ H := ws_of (ps_if ptW pssW pssW) (h H s _ fun B' H' g => by
  cases t with
  | true => exact iteT (k1 rfl B' H' g)
  | false => exact iteF (k2 rfl B' H' g))
/-- name += an int -/
theorem ws_aug {x : Str} (i : Nat) {m n : Int} {op : Operator} {f : Int → Int → Int} (ho : PIp X op (ipI f)) (hv : σ[i]? = some (some (.int m))) (h : XI X e σ B n) (s : Same B H) (k : ∀ B' H', Gr B H B' H' → D.nx (σ.set i (some (.int (f m n)))) H')
    (hN : X.N.Nodup := by exact FnScope.nd (by assumption)) (hi : X.N[i]? = some x := by rfl) (hx : Loc X.env.scope x := by first | exact Or.inl rfl | exact Or.inr rfl) (hf : X.fn x = true ∨ X.env.scope.names.lookup x = some .local := by first | exact .inl rfl | exact .inr rfl | assumption) :
    WS X (.AugAssign (.Name x pos') op e pos) D σ H := ws_of (ps_aug hN hi hx peW ho hf) ⟨_, hv, h H s _ fun v B' H' g pv => ⟨m, n, rfl, Dq.int_v pv, k B' H' g⟩⟩
theorem ws_never (h : False) : WS X st D σ H := h.elim
theorem wss_never (h : False) : WSs X sts D σ H := h.elim
/-! ### targets -/
theorem xg_name {v : V} {x : Str} (i : Nat) (hN : X.N.Nodup) (hi : X.N[i]? = some x := by rfl) (hx : Loc X.env.scope x := by first | exact Or.inl rfl | exact Or.inr rfl) (hf : X.fn x = true ∨ X.env.scope.names.lookup x = some .local := by first | exact .inl rfl | exact .inr rfl | assumption) :
    XG X (.Name x pos) v σ B (σ.set i (some v)) := fun H s Q k => wg_of (pg_name hN hi hx hf) k
/-- several targets -/
def XGs (X : Cx) (ts : List Expr) (vs : List V) (σ : L2.St) (B : Hp) (σ2 : L2.St) : Prop := ∀ H, Same B H → ∀ Q : L2.St → Hp → Prop, Q σ2 H → ∀ (pins : List (Addr × Obj)) (s : Shared) (us : List Value), Inv X pins σ H s → Vals vs us →
    wpAny (model X.prog X.w) X.A (assignInOrder ((assignEach ts X.env).map (·.2)) us) (fun _ s' => ∃ σ' H', Inv X pins σ' H' s' ∧ Q σ' H') X.xe s
theorem xgs_nil : XGs X [] [] σ B σ := fun H s Q k pins st us I r => pgs_nil.run pins st σ H [] us Q I r ⟨rfl, k⟩
theorem xgs_cons {ts : List Expr} {v : V} {vs : List V} {σ1 σ2 : L2.St} (h1 : XG X e v σ B σ1) (h2 : XGs X ts vs σ1 B σ2) (hs : (assignEach (e :: ts) X.env).map (·.2) = assign e X.env :: (assignEach ts X.env).map (·.2) := by rfl) : XGs X (e :: ts) (v :: vs) σ B σ2 := fun H s Q k pins st us I r => by
  have p2 : PGs X ts (fun ws σ' H' R => ∀ (pins : List (Addr × Obj)) (s : Shared) (us : List Value), Inv X pins σ' H' s → Vals ws us → wpAny (model X.prog X.w) X.A (assignInOrder ((assignEach ts X.env).map (·.2)) us) (fun _ s' => ∃ σ' H', Inv X pins σ' H' s' ∧ R σ' H') X.xe s) := ⟨fun pins s _ _ _ us _ I r h => h pins s us I r⟩
  refine (pgs_cons pgW p2 hs).run pins st σ H _ us Q I r ⟨v, vs, rfl, h1 H s _ ?_⟩
  exact fun pins s us I r => h2 H ‹_› Q k pins s us I r
theorem xg_tup {ts : List Expr} {k : Nat} {a : Addr} {vs : List V} {σ2 : L2.St} (hc : X.calm = true) (hq : SqT X.K B a vs) (h : XGs X ts vs σ B σ2) (hn : (assignEach ts X.env).length = vs.length := by rfl) (hst : (assignEach ts X.env).findIdx? (·.1) = none := by rfl) : XG X (.Tuple ts k pos) (.ref a) σ B σ2 := fun H s Q k => by
  have p : PGs X ts (fun ws σ' H' R => ∀ (pins : List (Addr × Obj)) (s : Shared) (us : List Value), Inv X pins σ' H' s → Vals ws us → wpAny (model X.prog X.w) X.A (assignInOrder ((assignEach ts X.env).map (·.2)) us) (fun _ s' => ∃ σ' H', Inv X pins σ' H' s' ∧ R σ' H') X.xe s) := ⟨fun pins s _ _ _ us _ I r h => h pins s us I r⟩
  exact wg_of (pg_tup hc p hn hst) ⟨a, vs, rfl, Same.seqT s hq, rfl, h H s Q k⟩
/-- a, b, .. = e -/
theorem ws_asg {tg : Expr} (h : XE X e σ B P) (s : Same B H) (k : ∀ v B' H', Gr B H B' H' → P B' v → ∃ σ2, XG X tg v σ B' σ2 ∧ D.nx σ2 H') (hs : swapsWithSole [tg] e pos.line X.env = pure false := by rfl) (hw : swappedStores [tg] e X.env = pure none := by rfl)
    (h1 : (assignEach [tg] X.env).map (·.2) = [assign tg X.env] := by rfl) : WS X (.Assign [tg] e pos) D σ H := ws_of (ps_asg peW pgW hs hw h1) (h H s _ fun v B' H' g pv => by
  obtain ⟨σ2, hg, q⟩ := k v B' H' g pv
  exact hg H' g.bh _ q)
end
/-! ### what is walked -/
/-- the walk J gives the data es, one after another -/
structure WalkD (K : PySem.W.Frag) (J : It) (es : List PyData) (B : Hp) : Prop where
  go : ∀ i H, Same B H → i < es.length → J.go i H
  stop : ∀ H, Same B H → J.stop es.length H
  yld : ∀ i H x H', Same B H → i < es.length → J.yld i H x H' → ∃ d B', es[i]? = some d ∧ Gr B H B' H' ∧ Dq K B' x d
def XI_ (X : Cx) (tg iter : Expr) (σ : L2.St) (B : Hp) (es : List PyData) : Prop := ∀ H, Same B H → ∀ R : It → Hp → Prop, (∀ J B' H', Gr B H B' H' → WalkD X.K J es B' → R J H') → WI X tg iter σ H R
section
variable {X : Cx} {tg iter e : Expr} {σ : L2.St} {B C H : Hp} {es ds : List PyData} {pos pp : Pos}
theorem XI_.up (h : XI_ X tg iter σ B es) (s : Same B C) : XI_ X tg iter σ C es := fun H ch R k => h H (s.trans ch) R fun J B' H' g w => k J _ H' (g.wide s ch)
  ⟨fun i H s' => w.go i H (uni_l.trans s'), fun H s' => w.stop H (uni_l.trans s'), fun i H x H'' s' hi y => by
    obtain ⟨d, B2, e1, g2, p2⟩ := w.yld i H x H'' (uni_l.trans s') hi y
    exact ⟨d, _, e1, g2.wide uni_l s', Dq.up uni_l _ _ p2⟩⟩
theorem xi_list (h : XE X iter σ B (DD X.K (.list es))) : XI_ X tg iter σ B es := fun H s R k => by
  refine wi_of (pi_list peW) (h H s _ fun v B1 H1 g1 p1 => ?_)
  obtain ⟨l, xs, rfl, h1, r1⟩ := Dq.lst_v p1
  refine ⟨l, rfl, ⟨xs, .of (g1.bh _ _ h1)⟩, k _ B1 H1 g1 ⟨fun i H2 s2 hi => ?_, fun H2 s2 => ⟨xs, .of (s2 _ _ h1), by rw [r1.length]; exact Nat.le_refl _⟩, fun i H2 x H3 s2 hi y => ?_⟩⟩
  · have hi' : i < xs.length := by rw [r1.length]; exact hi
    exact ⟨xs, xs[i], .of (s2 _ _ h1), by simp [hi']⟩
  · obtain ⟨rfl, y⟩ := y
    obtain ⟨d, e1, e2⟩ := r1.getV (y xs (.of (s2 _ _ h1)))
    exact ⟨d, B1, e1, .rfl s2, e2⟩
theorem xi_tup (h : XE X iter σ B (DD X.K (.tuple es))) : XI_ X tg iter σ B es := fun H s R k => by
  refine wi_of (pi_tup peW) (h H s _ fun v B1 H1 g1 p1 => ?_)
  obtain ⟨l, xs, rfl, h1, r1⟩ := Dq.tup_v p1
  refine ⟨l, rfl, ⟨xs, Same.seqT g1.bh h1⟩, k _ B1 H1 g1 ⟨fun i H2 s2 hi => ?_, fun H2 s2 => ⟨xs, Same.seqT s2 h1, by rw [r1.length]; exact Nat.le_refl _⟩, fun i H2 x H3 s2 hi y => ?_⟩⟩
  · have hi' : i < xs.length := by rw [r1.length]; exact hi
    exact ⟨xs, xs[i], Same.seqT s2 h1, by simp [hi']⟩
  · obtain ⟨rfl, y⟩ := y
    obtain ⟨d, e1, e2⟩ := r1.getV (y xs (Same.seqT s2 h1))
    exact ⟨d, B1, e1, .rfl s2, e2⟩
/-- at one heap alone -/
def XEat (X : Cx) (e : Expr) (σ : L2.St) (B H : Hp) (P : Hp → V → Prop) : Prop := ∀ Q : VK, (∀ v B' H', Gr B H B' H' → P B' v → Q v H') → WE X e σ H Q
def XIat (X : Cx) (tg iter : Expr) (σ : L2.St) (B H : Hp) (es : List PyData) : Prop := ∀ R : It → Hp → Prop, (∀ J B' H', Gr B H B' H' → WalkD X.K J es B' → R J H') → WI X tg iter σ H R
theorem XE.at {P : Hp → V → Prop} (h : XE X e σ B P) (s : Same B H) : XEat X e σ B H P := fun Q k => h H s Q k
theorem xi_list_at (h : XEat X iter σ B H (DD X.K (.list es))) : XIat X tg iter σ B H es := fun R k => by
  refine wi_of (pi_list peW) (h _ fun v B1 H1 g1 p1 => ?_)
  obtain ⟨l, xs, rfl, h1, r1⟩ := Dq.lst_v p1
  refine ⟨l, rfl, ⟨xs, .of (g1.bh _ _ h1)⟩, k _ B1 H1 g1 ⟨fun i H2 s2 hi => ?_, fun H2 s2 => ⟨xs, .of (s2 _ _ h1), by rw [r1.length]; exact Nat.le_refl _⟩, fun i H2 x H3 s2 hi y => ?_⟩⟩
  · have hi' : i < xs.length := by rw [r1.length]; exact hi
    exact ⟨xs, xs[i], .of (s2 _ _ h1), by simp [hi']⟩
  · obtain ⟨rfl, y⟩ := y
    obtain ⟨d, e1, e2⟩ := r1.getV (y xs (.of (s2 _ _ h1)))
    exact ⟨d, B1, e1, .rfl s2, e2⟩
/-- lo, lo + 1, .. -/
def rgD (lo : Int) (n : Nat) : List PyData := (List.range n).map fun (i : Nat) => PyData.int (lo + (i : Int))
theorem rgD_len (lo : Int) (n : Nat) : (rgD lo n).length = n := by unfold rgD; rw [List.length_map, List.length_range]
theorem rgD_at (lo : Int) {n i : Nat} (h : i < n) : (rgD lo n)[i]? = some (.int (lo + (i : Int))) := by
  unfold rgD
  rw [List.getElem?_map, List.getElem?_range h]
  rfl
theorem walk_rg {K : PySem.W.Frag} {lo : Int} {n : Nat} : WalkD K (Itr lo n) (rgD lo n) B := by
  refine ⟨fun i H _ hi => ?_, fun H _ => ?_, fun i H x H' s hi y => ?_⟩
  · rw [rgD_len] at hi
    exact hi
  · rw [rgD_len]
    exact Nat.le_refl n
  · rw [rgD_len] at hi
    obtain ⟨rfl, rfl⟩ := y
    exact ⟨_, B, rgD_at lo hi, .rfl s, .int _⟩
theorem xi_range1 {n : Int} (hg : Gl X "range") (hm : X.mg "range" = none) (h : XI X e σ B n) (hn : 0 ≤ n ∧ n ≤ 1000000) (hs1 : starEach [e] X.env = (false, eval e X.env) :: starEach [] X.env := by rfl) (hs : starEach [e] X.env = [(false, eval e X.env)] := by rfl) : XI_ X tg (.Call (.Name "range" pp) [e] [] pos) σ B (rgD 0 n.toNat) := fun H s R k => by
  refine wi_of (pi_range1 hg hm (pa_cons peW pa_nil hs1) hs) (h H s _ fun v B1 H1 g1 p1 => ⟨n, by rw [Dq.int_v p1], by omega, by omega, k _ B1 H1 g1 walk_rg⟩)
theorem xi_range2 {a b : Expr} {m n : Int} (hg : Gl X "range") (hm : X.mg "range" = none) (h1 : XI X a σ B m) (h2 : XI X b σ B n) (hn : -1000000 ≤ m ∧ m ≤ 1000000 ∧ -1000000 ≤ n ∧ n ≤ 1000000)
    (hs1 : starEach [a, b] X.env = (false, eval a X.env) :: starEach [b] X.env := by rfl) (hs2 : starEach [b] X.env = (false, eval b X.env) :: starEach [] X.env := by rfl) (hs : starEach [a, b] X.env = [(false, eval a X.env), (false, eval b X.env)] := by rfl) (hs' : starEach [b] X.env = [(false, eval b X.env)] := by rfl) : XI_ X tg (.Call (.Name "range" pp) [a, b] [] pos) σ B (rgD m (n - m).toNat) := fun H s R k => by
  refine wi_of (pi_range2 hg hm (pa_cons peW (pa_cons peW pa_nil hs2) hs1) hs hs') (h1 H s _ fun v B1 H1 g1 p1 => h2.up g1.bb H1 g1.bh _ fun u B2 H2 g2 p2 => ⟨m, n, by rw [Dq.int_v p1, Dq.int_v p2], by omega, k _ B2 H2 (g1.trans g2) walk_rg⟩)
/-- for over it: I by the turn, the slots, all that stands; B1 what is known of it from the start on -/
theorem ws_for {body : List Stmt} {D : Ends} (hc : X.calm = true) (h : XI_ X tg iter σ B es) (s : Same B H)
    (cont : ∀ B1 H1, Gr B H B1 H1 → ∃ I : Nat → L2.St → Hp → Prop, I 0 σ H1 ∧ (∀ i σ' H', I i σ' H' → Same B1 H') ∧
      (∀ i d v σ' H' B' H'', es[i]? = some d → I i σ' H' → Gr B1 H' B' H'' → Dq X.K B' v d → ∃ σ2, XG X tg v σ' B' σ2 ∧ WSs X body { D with nx := I (i + 1), ct := I (i + 1), bk := D.nx } σ2 H'') ∧ ∀ σ' H', I es.length σ' H' → D.nx σ' H')
    (hp : PassesOwn (model X.prog X.w) X.A X.env X.xe := by exact PassesOwn.never) (hs : ∀ x, foldedSetIterable iter X.env x = pure x := by intro _; rfl) : WS X (.For tg iter body [] pos) D σ H := by
  refine ws_of (ps_for hp hc piW pgW pssW hs) (h H s _ fun J B1 H1 g1 w => ?_)
  obtain ⟨I, h0, hI, turn, done⟩ := cont B1 H1 g1
  refine ⟨fun i m σ' H' => m = es.length - i ∧ i ≤ es.length ∧ I i σ' H', ⟨es.length, by simp, Nat.zero_le _, h0⟩, ?_⟩
  rintro i m σ' H' ⟨rfl, hi, p⟩
  have sb := hI i σ' H' p
  by_cases hlt : i < es.length
  · refine .inr ⟨w.go i H' sb hlt, I (i + 1), fun σ2 H2 p2 => ⟨es.length - (i + 1), by omega, rfl, hlt, p2⟩, fun x H2 y => ?_⟩
    obtain ⟨d, B2, e1, g2, p2⟩ := w.yld i H' x H2 sb hlt y
    obtain ⟨σ2, hg, q⟩ := turn i d x σ' H' B2 H2 e1 p g2 p2
    exact hg H2 g2.bh _ q
  · have e : i = es.length := by omega
    subst e
    exact .inl ⟨w.stop H' sb, done σ' H' p⟩
/-- for over items that are told by enc -/
theorem ws_forT {α : Type} {l : List α} {enc : α → PyData} {body : List Stmt} {D : Ends} (hc : X.calm = true) (h : XI_ X tg iter σ B (l.map enc)) (s : Same B H)
    (cont : ∀ B1 H1, Gr B H B1 H1 → ∃ I : Nat → L2.St → Hp → Prop, I 0 σ H1 ∧ (∀ i σ' H', I i σ' H' → Same B1 H') ∧
      (∀ i a v σ' H' B' H'', l[i]? = some a → I i σ' H' → Gr B1 H' B' H'' → Dq X.K B' v (enc a) → ∃ σ2, XG X tg v σ' B' σ2 ∧ WSs X body { D with nx := I (i + 1), ct := I (i + 1), bk := D.nx } σ2 H'') ∧ ∀ σ' H', I l.length σ' H' → D.nx σ' H')
    (hp : PassesOwn (model X.prog X.w) X.A X.env X.xe := by exact PassesOwn.never) (hs : ∀ x, foldedSetIterable iter X.env x = pure x := by intro _; rfl) : WS X (.For tg iter body [] pos) D σ H := by
  refine ws_for hc h s (fun B1 H1 g1 => ?_) hp hs
  obtain ⟨I, h0, hI, turn, done⟩ := cont B1 H1 g1
  refine ⟨I, h0, hI, fun i d v σ' H' B' H'' e p g q => ?_, fun σ' H' p => ?_⟩
  · rw [List.getElem?_map] at e
    cases z : l[i]? with
    | none => rw [z] at e; cases e
    | some a =>
      rw [z] at e
      cases e
      exact turn i a v σ' H' B' H'' z p g q
  · rw [List.length_map] at p
    exact done σ' H' p
/-- the same; what is known grows by the turn -/
theorem ws_forBA {α : Type} {l : List α} {enc : α → PyData} {body : List Stmt} {D : Ends} (hc : X.calm = true) (h : XIat X tg iter σ B H (l.map enc))
    (cont : ∀ B1 H1, Gr B H B1 H1 → ∃ I : Nat → L2.St → Hp → Hp → Prop, I 0 σ B1 H1 ∧ (∀ i σ' B' H', I i σ' B' H' → Same B1 B' ∧ Same B' H') ∧
      (∀ i a v σ' B' H' B2 H2, l[i]? = some a → I i σ' B' H' → Gr B' H' B2 H2 → Dq X.K B2 v (enc a) → ∃ σ2, XG X tg v σ' B2 σ2 ∧ WSs X body { D with nx := fun σ3 H3 => ∃ B3, I (i + 1) σ3 B3 H3, ct := fun σ3 H3 => ∃ B3, I (i + 1) σ3 B3 H3, bk := D.nx } σ2 H2) ∧ ∀ σ' B' H', I l.length σ' B' H' → D.nx σ' H')
    (hp : PassesOwn (model X.prog X.w) X.A X.env X.xe := by exact PassesOwn.never) (hs : ∀ x, foldedSetIterable iter X.env x = pure x := by intro _; rfl) : WS X (.For tg iter body [] pos) D σ H := by
  refine ws_of (ps_for hp hc piW pgW pssW hs) (h _ fun J B1 H1 g1 w => ?_)
  obtain ⟨I, h0, hI, turn, done⟩ := cont B1 H1 g1
  refine ⟨fun i m σ' H' => m = l.length - i ∧ i ≤ l.length ∧ ∃ B', I i σ' B' H', ⟨l.length, by simp, Nat.zero_le _, B1, h0⟩, ?_⟩
  rintro i m σ' H' ⟨rfl, hi, B2, p⟩
  obtain ⟨s1, s2⟩ := hI i σ' B2 H' p
  have sb := s1.trans s2
  have el : (l.map enc).length = l.length := List.length_map ..
  by_cases hlt : i < l.length
  · refine .inr ⟨w.go i H' sb (by rw [el]; exact hlt), fun σ3 H3 => ∃ B3, I (i + 1) σ3 B3 H3, fun σ2 H2 p2 => ⟨l.length - (i + 1), by omega, rfl, hlt, p2⟩, fun x H2 y => ?_⟩
    obtain ⟨d, Bx, e1, gx, px⟩ := w.yld i H' x H2 sb (by rw [el]; exact hlt) y
    obtain ⟨a, ea, rfl⟩ : ∃ a, l[i]? = some a ∧ d = enc a := by
      rw [List.getElem?_map] at e1
      cases q : l[i]? with
      | none => rw [q] at e1; cases e1
      | some a =>
        rw [q] at e1
        exact ⟨a, rfl, (Option.some.inj e1).symm⟩
    have gu := gx.wide s1 s2
    obtain ⟨σ2, hg, q⟩ := turn i a x σ' B2 H' _ H2 ea p gu (Dq.up uni_l _ _ px)
    exact hg H2 gu.bh _ q
  · have e : i = l.length := by omega
    subst e
    exact .inl ⟨by have z := w.stop H' sb; rw [el] at z; exact z, done σ' B2 H' p⟩
/-- the same; what is known grows by the turn -/
theorem ws_forB {α : Type} {l : List α} {enc : α → PyData} {body : List Stmt} {D : Ends} (hc : X.calm = true) (h : XI_ X tg iter σ B (l.map enc)) (s : Same B H)
    (cont : ∀ B1 H1, Gr B H B1 H1 → ∃ I : Nat → L2.St → Hp → Hp → Prop, I 0 σ B1 H1 ∧ (∀ i σ' B' H', I i σ' B' H' → Same B1 B' ∧ Same B' H') ∧
      (∀ i a v σ' B' H' B2 H2, l[i]? = some a → I i σ' B' H' → Gr B' H' B2 H2 → Dq X.K B2 v (enc a) → ∃ σ2, XG X tg v σ' B2 σ2 ∧ WSs X body { D with nx := fun σ3 H3 => ∃ B3, I (i + 1) σ3 B3 H3, ct := fun σ3 H3 => ∃ B3, I (i + 1) σ3 B3 H3, bk := D.nx } σ2 H2) ∧ ∀ σ' B' H', I l.length σ' B' H' → D.nx σ' H')
    (hp : PassesOwn (model X.prog X.w) X.A X.env X.xe := by exact PassesOwn.never) (hs : ∀ x, foldedSetIterable iter X.env x = pure x := by intro _; rfl) : WS X (.For tg iter body [] pos) D σ H :=
  ws_forBA hc (fun R k => h H s R k) cont hp hs
/-- while, by a word that falls -/
theorem ws_while {c : Expr} {body : List Stmt} {D : Ends} (W : Nat → L2.St → Hp → Prop) (m0 : Nat) (h0 : W m0 σ H)
    (turn : ∀ m σ' H', W m σ' H' → ∃ b C, Same C H' ∧ XT X c σ' C b ∧ (b = true → ∀ B' H2, Gr C H' B' H2 → ∃ N : L2.St → Hp → Prop, (∀ σ2 H3, N σ2 H3 → ∃ m', m' < m ∧ W m' σ2 H3) ∧ WSs X body { D with nx := N, ct := N, bk := D.nx } σ' H2) ∧
      (b = false → ∀ B' H2, Gr C H' B' H2 → D.nx σ' H2)) (hp : PassesOwn (model X.prog X.w) X.A X.env X.xe := by exact PassesOwn.never) : WS X (.While c body [] pos) D σ H :=
  ws_of (ps_while hp ptW pssW) ⟨W, ⟨m0, h0⟩, fun m σ' H' w => by
    obtain ⟨b, C, s, hb, h1, h2⟩ := turn m σ' H' w
    refine hb H' s _ fun B' H2 g => ?_
    cases b with
    | true =>
      obtain ⟨N, hN, q⟩ := h1 rfl B' H2 g
      exact iteT ⟨N, hN, q⟩
    | false => exact iteF (h2 rfl B' H2 g)⟩
end
end TW
/-! TwE: enumerate, zip, reversed; comprehensions; lists that grow. -/
namespace TW
open PySem L2 RZ
section
variable {X : Cx} {tg iter e : Expr} {σ : L2.St} {B C H : Hp} {es ds : List PyData} {pos pp tpos : Pos} {elts : List Expr} {kk : Nat}
/-- (i, x) for each -/
def enD (ds : List PyData) : List PyData := ds.zipIdx.map fun p => .tuple [.int (p.2 : Int), p.1]
theorem enD_len (ds : List PyData) : (enD ds).length = ds.length := by unfold enD; simp
theorem enD_at {ds : List PyData} {i : Nat} {d : PyData} (h : ds[i]? = some d) : (enD ds)[i]? = some (.tuple [.int (i : Int), d]) := by
  unfold enD
  simp [List.getElem?_map, List.getElem?_zipIdx, h]
theorem xi_enum (hg : Gl X "enumerate") (hm : X.mg "enumerate" = none) (h : XE X e σ B (DD X.K (.list ds))) (hs1 : starEach [e] X.env = (false, eval e X.env) :: starEach [] X.env := by rfl) (hs : starEach [e] X.env = [(false, eval e X.env)] := by rfl) :
    XI_ X (.Tuple elts kk tpos) (.Call (.Name "enumerate" pp) [e] [] pos) σ B (enD ds) := fun H s R k => by
  refine wi_of (pi_enum hg hm (pa_cons peW pa_nil hs1) hs) (h H s _ fun v B1 H1 g1 p1 => ?_)
  obtain ⟨l, xs, rfl, h1, r1⟩ := Dq.lst_v p1
  refine ⟨l, xs, rfl, .of (g1.bh _ _ h1), k _ B1 H1 g1 ⟨fun i H2 s2 hi => ?_, fun H2 s2 => ⟨xs, .of (s2 _ _ h1), by rw [r1.length, enD_len]; exact Nat.le_refl _⟩, fun i H2 x H3 s2 hi y => ?_⟩⟩
  · have hi' : i < xs.length := by rw [r1.length]; rw [enD_len] at hi; exact hi
    exact ⟨xs, xs[i], .of (s2 _ _ h1), by simp [hi']⟩
  · obtain ⟨T, z, rfl, hT, rfl, y⟩ := y
    obtain ⟨d, e1, e2⟩ := r1.getV (y xs (.of (s2 _ _ h1)))
    refine ⟨_, _, enD_at e1, .new s2 hT, .tup (.of upd_same) (.cons (.int _) (.one (Dq.up (same_new (s2.free hT)) _ _ e2)))⟩
/-- (x, y) of two -/
def zpD (ds es : List PyData) : List PyData := List.zipWith (fun a b => .tuple [a, b]) ds es
theorem zpD_at {ds es : List PyData} {i : Nat} {d e : PyData} (h : ds[i]? = some d) (h2 : es[i]? = some e) : (zpD ds es)[i]? = some (.tuple [d, e]) := by
  unfold zpD
  rw [List.getElem?_zipWith, h, h2]
theorem zpD_len (ds es : List PyData) : (zpD ds es).length = min ds.length es.length := by unfold zpD; exact List.length_zipWith
theorem xi_zip {e2 : Expr} (hg : Gl X "zip") (hm : X.mg "zip" = none) (h1 : XE X e σ B (DD X.K (.list ds))) (h2 : XE X e2 σ B (DD X.K (.list es))) (hs1 : starEach [e, e2] X.env = (false, eval e X.env) :: starEach [e2] X.env := by rfl) (hs2 : starEach [e2] X.env = (false, eval e2 X.env) :: starEach [] X.env := by rfl)
    (hpl : (backTo pos (starEach [e2] X.env)).any (·.1) = false := by rfl) : XI_ X (.Tuple elts kk tpos) (.Call (.Name "zip" pp) [e, e2] [] pos) σ B (zpD ds es) := fun H s R k => by
  refine wi_of (pi_zipA hg hm (pa_cons peW (pa_cons peW pa_nil hs2) hs1) hs1 hpl) (h1 H s _ fun v B1 H1 g1 p1 => h2.up g1.bb H1 g1.bh _ fun u B2 H2 g2 p2 => ?_)
  obtain ⟨l, xs, rfl, q1, r1⟩ := Dq.lst_v (Dq.up g2.bb _ _ p1)
  obtain ⟨m, ys, rfl, q2, r2⟩ := Dq.lst_v p2
  refine ⟨l, m, xs, ys, rfl, .inl ⟨.of (g2.bh _ _ q1), .of (g2.bh _ _ q2), k _ B2 H2 (g1.trans g2) ⟨fun i H3 s3 hi => ?_, fun H3 s3 => ⟨xs, ys, .of (s3 _ _ q1), .of (s3 _ _ q2), ?_⟩, fun i H3 x H4 s3 hi y => ?_⟩⟩⟩
  · rw [zpD_len, ← r1.length, ← r2.length] at hi
    have i1 : i < xs.length := by omega
    have i2 : i < ys.length := by omega
    exact ⟨xs, ys, xs[i], ys[i], .of (s3 _ _ q1), .of (s3 _ _ q2), by simp [i1], by simp [i2]⟩
  · rw [zpD_len, ← r1.length, ← r2.length]
    omega
  · obtain ⟨T, z, z', rfl, hT, rfl, y1, y2⟩ := y
    obtain ⟨d, e1, e2⟩ := r1.getV (y1 xs (.of (s3 _ _ q1)))
    obtain ⟨d', e3, e4⟩ := r2.getV (y2 ys (.of (s3 _ _ q2)))
    have n := same_new (o := HO.tup [z, z']) (s3.free hT)
    exact ⟨_, _, zpD_at e1 e3, .new s3 hT, .tup (.of upd_same) (.cons (Dq.up n _ _ e2) (.one (Dq.up n _ _ e4)))⟩
theorem xi_zipT {e2 : Expr} (hg : Gl X "zip") (hm : X.mg "zip" = none) (h1 : XE X e σ B (DD X.K (.tuple ds))) (h2 : XE X e2 σ B (DD X.K (.tuple es))) (hs1 : starEach [e, e2] X.env = (false, eval e X.env) :: starEach [e2] X.env := by rfl) (hs2 : starEach [e2] X.env = (false, eval e2 X.env) :: starEach [] X.env := by rfl)
    (hpl : (backTo pos (starEach [e2] X.env)).any (·.1) = false := by rfl) : XI_ X (.Tuple elts kk tpos) (.Call (.Name "zip" pp) [e, e2] [] pos) σ B (zpD ds es) := fun H s R k => by
  refine wi_of (pi_zipA hg hm (pa_cons peW (pa_cons peW pa_nil hs2) hs1) hs1 hpl) (h1 H s _ fun v B1 H1 g1 p1 => h2.up g1.bb H1 g1.bh _ fun u B2 H2 g2 p2 => ?_)
  obtain ⟨l, xs, rfl, q1, r1⟩ := Dq.tup_v (Dq.up g2.bb _ _ p1)
  obtain ⟨m, ys, rfl, q2, r2⟩ := Dq.tup_v p2
  refine ⟨l, m, xs, ys, rfl, .inr ⟨Same.seqT g2.bh q1, Same.seqT g2.bh q2, k _ B2 H2 (g1.trans g2) ⟨fun i H3 s3 hi => ?_, fun H3 s3 => ⟨xs, ys, Same.seqT s3 q1, Same.seqT s3 q2, ?_⟩, fun i H3 x H4 s3 hi y => ?_⟩⟩⟩
  · rw [zpD_len, ← r1.length, ← r2.length] at hi
    have i1 : i < xs.length := by omega
    have i2 : i < ys.length := by omega
    exact ⟨xs, ys, xs[i], ys[i], Same.seqT s3 q1, Same.seqT s3 q2, by simp [i1], by simp [i2]⟩
  · rw [zpD_len, ← r1.length, ← r2.length]
    omega
  · obtain ⟨T, z, z', rfl, hT, rfl, y1, y2⟩ := y
    obtain ⟨d, e1, e2⟩ := r1.getV (y1 xs (Same.seqT s3 q1))
    obtain ⟨d', e3, e4⟩ := r2.getV (y2 ys (Same.seqT s3 q2))
    have n := same_new (o := HO.tup [z, z']) (s3.free hT)
    exact ⟨_, _, zpD_at e1 e3, .new s3 hT, .tup (.of upd_same) (.cons (Dq.up n _ _ e2) (.one (Dq.up n _ _ e4)))⟩
theorem xi_rev (hg : Gl X "reversed") (hm : X.mg "reversed" = none) (h : XE X e σ B (DD X.K (.list ds))) (hs1 : starEach [e] X.env = (false, eval e X.env) :: starEach [] X.env := by rfl) (hs : starEach [e] X.env = [(false, eval e X.env)] := by rfl) : XI_ X tg (.Call (.Name "reversed" pp) [e] [] pos) σ B ds.reverse := fun H s R k => by
  refine wi_of (pi_reversed hg hm (pa_cons peW pa_nil hs1) hs) (h H s _ fun v B1 H1 g1 p1 => ?_)
  obtain ⟨l, xs, rfl, h1, r1⟩ := Dq.lst_v p1
  refine ⟨l, xs, rfl, .of (g1.bh _ _ h1), k _ B1 H1 g1 ⟨fun i H2 s2 hi => ?_, fun H2 s2 => ?_, fun i H2 x H3 s2 hi y => ?_⟩⟩
  · have hi' : i < xs.length := by rw [r1.length]; rw [List.length_reverse] at hi; exact hi
    exact ⟨hi', xs, xs[xs.length - 1 - i]'(by omega), .of (s2 _ _ h1), by simp [show xs.length - 1 - i < xs.length by omega]⟩
  · show xs.length ≤ ds.reverse.length
    rw [r1.length, List.length_reverse]
    exact Nat.le_refl _
  · have hi' : i < xs.length := by rw [r1.length]; rw [List.length_reverse] at hi; exact hi
    have hy := y.2 xs (.of (s2 _ _ h1))
    have e0 := y.1
    subst e0
    obtain ⟨d, e1, e2⟩ := r1.getV hy
    refine ⟨d, B1, ?_, .rfl s2, e2⟩
    rw [List.getElem?_reverse (by rw [← r1.length]; exact hi'), ← r1.length]
    exact e1
end
/-! ### comprehensions -/
/-- the contexts of a comprehension's block -/
def Blk (X : Cx) (scope : Scope) (XB : Cx) : Prop := ∃ (s : Shared) (H : Hp) (C : Addr) (cl : List (Str × Addr)) (fp : List Addr), XB = X.blk s H scope (compEnvC scope cl C X.env) fp
def XTs (X : Cx) (ifs : List Expr) (σ : L2.St) (B : Hp) (b : Bool) : Prop := ∀ H, Same B H → ∀ Q : Bool → Hp → Prop, (∀ B' H', Gr B H B' H' → Q b H') → ∀ (pins : List (Addr × Obj)) (s : Shared), Inv X pins σ H s →
    wpAny (model X.prog X.w) X.A (forIn ifs true fun c r => if r = true then do let ok ← isTrue c X.env (eval c X.env); pure (ForInStep.yield ok) else pure (ForInStep.yield r)) (TP X pins σ Q) X.xe s
section
variable {X : Cx} {tg iter elt c : Expr} {ifs : List Expr} {σ : L2.St} {B C H : Hp} {es ds : List PyData} {pos pos' spos : Pos} {scope : Scope} {own : List (Str × Nat)} {b : Bool}
theorem xts_nil : XTs X [] σ B true := fun H s Q k pins st I => pts_nil.run pins st σ H Q I (k B H (.rfl s))
theorem xts_one (h : XT X c σ B b) : XTs X [c] σ B b := fun H s Q k pins st I => (pts_one ptW).run pins st σ H Q I (h H s Q k)
/-- what each turn of a comprehension must show: g what is kept of an item -/
def LcTurn {α β : Type} (X : Cx) (tg elt : Expr) (ifs : List Expr) (scope : Scope) (vs : List Nat) (σ : L2.St) (B : Hp) (l : List α) (enc : α → PyData) (g : α → Option β) (enc' : β → PyData) : Prop :=
  ∀ (i : Nat) (a : α) (v : V) (B' : Hp), l[i]? = some a → Same B B' → Dq X.K B' v (enc a) → ∃ σ2, wipe σ2 vs = wipe σ vs ∧ ∀ XB, Blk X scope XB → XG XB tg v (wipe σ vs) B' σ2 ∧ XTs XB ifs σ2 B' (g a).isSome ∧ ∀ r, g a = some r → XE XB elt σ2 B' (DD X.K (enc' r))
variable {α β : Type} {l : List α} {enc : α → PyData} {g : α → Option β} {enc' : β → PyData}
theorem lc_turn {α β : Type} {X : Cx} {tg elt : Expr} {ifs : List Expr} {scope : Scope} {ws : List Nat} {σ σ2 : L2.St} {v : V} {B' : Hp} {a : α} {g : α → Option β} {enc' : β → PyData}
    (hx : ∀ XB, Blk X scope XB → XG XB tg v (wipe σ ws) B' σ2 ∧ XTs XB ifs σ2 B' (g a).isSome ∧ ∀ r, g a = some r → XE XB elt σ2 B' (DD X.K (enc' r))) (hw : wipe σ2 ws = wipe σ ws) :
    ∃ σ2, wipe σ2 ws = wipe σ ws ∧ ∀ XB, Blk X scope XB → XG XB tg v (wipe σ ws) B' σ2 ∧ XTs XB ifs σ2 B' (g a).isSome ∧ ∀ r, g a = some r → XE XB elt σ2 B' (DD X.K (enc' r)) := ⟨σ2, hw, hx⟩
theorem lc_read (h : XI_ X tg iter σ B (l.map enc)) (g : α → Option β) (hz : l.length < sizeLine) (turn : LcTurn X tg elt ifs scope (own.map (·.2)) σ B l enc g enc') {H : Hp} (s : Same B H) {Q : VK}
    (k : ∀ v B' H', Gr B H B' H' → DD X.K (.list ((l.filterMap g).map enc')) B' v → Q v H') :
    tLc (WI X tg iter) (fun v σ' H' Q' => ∀ XB, Blk X scope XB → WG XB tg v σ' H' Q')
      (fun σ' H' Q' => ∀ XB, Blk X scope XB → ∀ (pins : List (Addr × Obj)) (s : Shared), Inv XB pins σ' H' s → wpAny (model XB.prog XB.w) XB.A (forIn ifs true fun c r => if r = true then do let ok ← isTrue c XB.env (eval c XB.env); pure (ForInStep.yield ok) else pure (ForInStep.yield r)) (TP XB pins σ' Q') XB.xe s)
      (fun σ' H' Q' => ∀ XB, Blk X scope XB → WE XB elt σ' H' Q') (own.map (·.2)) σ H Q := by
  refine h H s _ fun J B1 H1 g1 w D hD => ?_
  have hB1 : B1 D = none := g1.bh.free hD
  have el : (l.map enc).length = l.length := List.length_map ..
  refine ⟨fun i m H' => m = l.length - i ∧ i ≤ l.length ∧ ∃ B' acc, Gr B1 H1 B' H' ∧ B' D = none ∧ H' D = some (.lst acc) ∧ DqAll X.K B' acc (((l.take i).filterMap g).map enc'),
    ⟨l.length, by simp, Nat.zero_le _, B1, [], (Gr.rfl g1.bh).mut hD hB1, hB1, upd_same, .nil⟩, ?_⟩
  rintro i m H' ⟨rfl, hi, B', acc, gr, bD, hacc, rel⟩
  by_cases hlt : i < l.length
  · refine .inr ⟨w.go i H' (gr.bb.trans gr.bh) (by rw [el]; exact hlt), fun H2 => i + 1 ≤ l.length ∧ ∃ B' acc, Gr B1 H1 B' H2 ∧ B' D = none ∧ H2 D = some (.lst acc) ∧ DqAll X.K B' acc (((l.take (i + 1)).filterMap g).map enc'), fun H2 hn => ⟨l.length - (i + 1), by omega, rfl, hn⟩, fun x H2 y => ?_⟩
    obtain ⟨d, Bx, e1, gx, px⟩ := w.yld i H' x H2 (gr.bb.trans gr.bh) (by rw [el]; exact hlt) y
    obtain ⟨a, ea, rfl⟩ : ∃ a, l[i]? = some a ∧ d = enc a := by
      rw [List.getElem?_map] at e1
      cases q : l[i]? with
      | none => rw [q] at e1; cases e1
      | some a =>
        rw [q] at e1
        exact ⟨a, rfl, (Option.some.inj e1).symm⟩
    have gu := gx.wide gr.bb gr.bh
    have g2 := gr.trans gu
    have uD : uni Bx B' D = none := gu.low bD (by rw [hacc]; intro z; cases z)
    have hacc2 : H2 D = some (.lst acc) := gx.hh _ _ hacc
    obtain ⟨σ2, ew, q⟩ := turn i a x (uni Bx B') ea ((g1.bb.trans gr.bb).trans gu.bb) (Dq.up uni_l _ _ px)
    have etk : ((l.take (i + 1)).filterMap g).map enc' = ((l.take i).filterMap g).map enc' ++ (match g a with | some r => [enc' r] | none => []) := by
      rw [List.take_add_one, ea, List.filterMap_append, List.map_append]
      cases hf : g a <;> simp [hf]
    refine fun XB hb => (q XB hb).1 H2 gu.bh _ ⟨ew, fun XB2 hb2 => ?_⟩
    refine (q XB2 hb2).2.1 H2 gu.bh _ fun B3 H3 g3 => ?_
    have g4 := g2.trans g3
    have b3 : B3 D = none := g3.low uD (by rw [hacc2]; intro z; cases z)
    have hacc3 : H3 D = some (.lst acc) := g3.hh _ _ hacc2
    have rel3 := DqAll.up (gu.bb.trans g3.bb) _ _ rel
    cases hf : g a with
    | none =>
      refine iteF ⟨hlt, B3, acc, g4, b3, hacc3, ?_⟩
      rw [etk, hf, List.append_nil]
      exact rel3
    | some r =>
      refine iteT fun XB3 hb3 => ?_
      have qe : XE XB3 elt σ2 B3 (DD X.K (enc' r)) := ((q XB3 hb3).2.2 r hf).up g3.bb
      refine qe H3 g3.bh _ fun v B4 H4 g5 p5 => ?_
      have b4 : B4 D = none := g5.low b3 (by rw [hacc3]; intro z; cases z)
      have hacc4 : H4 D = some (.lst acc) := g5.hh _ _ hacc3
      refine ⟨acc, hacc4, ?_, hlt, B4, acc ++ [v], (g4.trans g5).mut hD b4, b4, upd_same, ?_⟩
      · rw [rel3.length, List.length_map]
        have l1 : ((l.take i).filterMap g).length ≤ (l.take i).length := List.length_filterMap_le ..
        rw [List.length_take] at l1
        omega
      · rw [etk, hf]
        exact (DqAll.up g5.bb _ _ rel3).app (.one p5)
  · have e : i = l.length := by omega
    subst e
    refine .inl ⟨by have z := w.stop H' (gr.bb.trans gr.bh); rw [el] at z; exact z, ?_⟩
    have g6 := g1.trans (gr.freeze hD hacc)
    rw [List.take_of_length_le (Nat.le_refl _)] at rel
    have nD : Same B' (upd B' D (.lst acc)) := same_new bD
    exact k _ _ _ g6 (.lst upd_same (DqAll.up nD _ _ rel))
theorem blk_g {t : Cx → TG} (h : ∀ XB, Blk X scope XB → PG XB tg (t XB)) : ∀ (s : Shared) (H : Hp) (C : Addr) (cl : List (Str × Addr)) (fp : List Addr), PG (X.blk s H scope (compEnvC scope cl C X.env) fp) tg (fun v σ' H' Q' => ∀ XB, Blk X scope XB → t XB v σ' H' Q') := fun s H C cl fp =>
  ⟨fun pins st σ H' v u Q I r q => (h _ ⟨s, H, C, cl, fp, rfl⟩).run pins st σ H' v u Q I r (q _ ⟨s, H, C, cl, fp, rfl⟩)⟩
theorem x_lc (h : XI_ X tg iter σ B (l.map enc)) (g : α → Option β) (turn : LcTurn X tg elt ifs scope (own.map (·.2)) σ B l enc g enc') (hz : l.length < sizeLine) (hc : X.calm = true) (hN : X.N.Nodup) (ok : BlkOk X.N X.env.scope scope own)
    (hs : ∀ x, foldedSetIterable iter X.env x = pure x := by intro _; rfl) : XE X (.ListComp elt [⟨tg, iter, ifs, 0⟩] scope pos) σ B (DD X.K (.list ((l.filterMap g).map enc'))) := fun H s Q k => by
  refine we_of (pe_lc hc hN piW ok (fun s H C cl fp => ⟨fun pins st σ H' v u Q I r q => q _ ⟨s, H, C, cl, fp, rfl⟩ pins st u I r⟩) (fun s H C cl fp => ⟨fun pins st σ H' Q I q => q _ ⟨s, H, C, cl, fp, rfl⟩ pins st I⟩)
    (fun s H C cl fp => ⟨fun pins st σ H' Q I q => q _ ⟨s, H, C, cl, fp, rfl⟩ pins st I⟩) hs) (lc_read h g hz turn s k)
/-- no test: all are kept -/
theorem lc_map {α β : Type} {X : Cx} {tg elt : Expr} {scope : Scope} {ws : List Nat} {σ σ2 : L2.St} {v : V} {B' : Hp} {a : α} {f : α → β} {enc' : β → PyData}
    (hx : ∀ XB, Blk X scope XB → XG XB tg v (wipe σ ws) B' σ2 ∧ XE XB elt σ2 B' (DD X.K (enc' (f a)))) (hw : wipe σ2 ws = wipe σ ws) :
    ∃ σ2, wipe σ2 ws = wipe σ ws ∧ ∀ XB, Blk X scope XB → XG XB tg v (wipe σ ws) B' σ2 ∧ XTs XB [] σ2 B' ((fun a => some (f a)) a).isSome ∧ ∀ r, (fun a => some (f a)) a = some r → XE XB elt σ2 B' (DD X.K (enc' r)) :=
  ⟨σ2, hw, fun XB h => ⟨(hx XB h).1, xts_nil, fun r hr => by
    cases hr
    exact (hx XB h).2⟩⟩
theorem fm_map {α β : Type} (f : α → β) (l : List α) : l.filterMap (fun a => some (f a)) = l.map f := by
  rw [show (fun a => some (f a)) = some ∘ f from rfl, List.filterMap_eq_map]
theorem x_lcM {α β : Type} {l : List α} {enc : α → PyData} {enc' : β → PyData} (f : α → β) (h : XI_ X tg iter σ B (l.map enc)) (turn : LcTurn X tg elt [] scope (own.map (·.2)) σ B l enc (fun a => some (f a)) enc') (hz : l.length < sizeLine) (hc : X.calm = true) (hN : X.N.Nodup) (ok : BlkOk X.N X.env.scope scope own)
    (hs : ∀ x, foldedSetIterable iter X.env x = pure x := by intro _; rfl) : XE X (.ListComp elt [⟨tg, iter, [], 0⟩] scope pos) σ B (DD X.K (.list ((l.map f).map enc'))) := by
  have z := x_lc (pos := pos) h (fun a => some (f a)) turn hz hc hN ok hs
  rw [fm_map] at z
  exact z
/-- name = [..] on one row, the name a local -/
theorem ws_setLc {D : Ends} {y : Str} {py : Pos} (i : Nat) (h : XI_ X tg iter σ B (l.map enc)) (g : α → Option β) (turn : LcTurn X tg elt ifs scope (own.map (·.2)) σ B l enc g enc') (s : Same B H) (k : ∀ v B' H', Gr B H B' H' → DD X.K (.list ((l.filterMap g).map enc')) B' v → D.nx (σ.set i (some v)) H') (hz : l.length < sizeLine)
    (hc : X.calm = true) (hN : X.N.Nodup) (ok : BlkOk X.N X.env.scope scope own) (hsw : swapsWith (.ListComp elt [⟨tg, iter, ifs, 0⟩] scope pos) (some (.Name y py)) spos.line X.env = pure true) (hy : X.N[i]? = some y := by rfl) (hyl : X.env.scope.names.lookup y = some .local := by rfl)
    (hs : ∀ x, foldedSetIterable iter X.env x = pure x := by intro _; rfl) : WS X (.Assign [.Name y py] (.ListComp elt [⟨tg, iter, ifs, 0⟩] scope pos) spos) D σ H :=
  ws_of (ps_setLc hc hN hy hyl hsw piW ok (fun s H C cl fp => ⟨fun pins st σ H' v u Q I r q => q _ ⟨s, H, C, cl, fp, rfl⟩ pins st u I r⟩) (fun s H C cl fp => ⟨fun pins st σ H' Q I q => q _ ⟨s, H, C, cl, fp, rfl⟩ pins st I⟩)
    (fun s H C cl fp => ⟨fun pins st σ H' Q I q => q _ ⟨s, H, C, cl, fp, rfl⟩ pins st I⟩) hs) (lc_read h g hz turn s k)
end
/-! ### lists that grow -/
section
variable {X : Cx} {o e i : Expr} {σ : L2.St} {B C H : Hp} {ds : List PyData} {pos apos epos : Pos} {P : Hp → V → Prop} {D : Ends}
/-- xs.append(e) as a row: xs at l, an own list -/
theorem ws_app {l : Addr} {xs : List V} (ho : ∀ C, Same B C → XE X o σ C (Is (.ref l))) (he : XE X e σ B P) (s : Same B H) (hl : H l = some (.lst xs)) (hz : xs.length < sizeLine) (k : ∀ v B' H', Gr B H B' H' → P B' v → H' l = some (.lst xs) → D.nx σ (upd H' l (.lst (xs ++ [v])))) [Mono P]
    (hpe : PE X (.Call (.Attribute o "append" apos) [e] [] pos) (tBM X.K "list" rAppend (WE X o) (tCons (WE X e) tNil)) := by exact pe_bm PySem.F.plainAttrs_list PySem.F.slot_list_append PySem.F.type_list_append mt_append peW (pa_cons peW pa_nil))
    (hs : swapsWith (.Call (.Attribute o "append" apos) [e] [] pos) none epos.line X.env = pure false := by rfl) : WS X (.Expr (.Call (.Attribute o "append" apos) [e] [] pos) epos) D σ H := by
  refine ws_of (ps_expr hpe hs) ?_
  refine ho B (.refl _) H s _ fun v B1 H1 g1 p1 => ?_
  obtain rfl : v = .ref l := p1
  refine ⟨.inl ⟨rfl, xs, .of (g1.hh _ _ hl)⟩, ?_⟩
  refine he.up g1.bb H1 g1.bh _ fun u B2 H2 g2 p2 => ⟨l, xs, u, rfl, rfl, g2.hh _ _ (g1.hh _ _ hl), hz, k u B2 H2 (g1.trans g2) p2 (g2.hh _ _ (g1.hh _ _ hl))⟩
end
end TW
/-! TwF: dicts whose keys are nested tuples. -/
namespace TW
open PySem PySem.Spec PyProof.Rows L2
abbrev NE := NestedKey × Addr × Value
/-! ### what stands at such a dict's address -/
def RawD (P : Program) (w : World) (d : Addr) (xs : List NE) (h : Heap) : Prop :=
  ∃ o es ep, h.get? d = some o ∧ o.ExactDict ∧ o.data = .dict es ep ∧ es.toList = xs.map (entryOfKey (nestedKind P w)) ∧ (xs.map (·.1)).Nodup
def dO (P : Program) (w : World) (d : Addr) (xs : List NE) : HO := .ext (RawD P w d xs)
theorem dO_ok {P : Program} {w : World} {H : Hp} {h : Heap} {d : Addr} {xs : List NE} (r : RawD P w d xs h) : ObjOk P w H h d (dO P w d xs) := by
  refine ⟨r, ?_, fun h1 h2 z k => ?_⟩
  · obtain ⟨o, _, _, e, _⟩ := r
    exact ⟨o, e⟩
  · obtain ⟨o, es, ep, e, q⟩ := z
    exact ⟨o, es, ep, k o e, q⟩
theorem dO_raw {P : Program} {w : World} {H : Hp} {h : Heap} {d : Addr} {xs : List NE} (ok : HOk P w H h) (e : H d = some (dO P w d xs)) : RawD P w d xs h := by
  have q : ObjOk P w H h d (.ext (RawD P w d xs)) := ok d _ e
  exact q.1
/-- the entries xs are the keys and data kvs -/
inductive DNx (K : PySem.W.Frag) (B : Hp) : List (NestedKey × PyData) → List NE → Prop
  | nil : DNx K B [] []
  | cons {k : NestedKey} {d : PyData} {a : Addr} {u : Value} {v : V} {kvs : List (NestedKey × PyData)} {xs : List NE} : Dq K B (.ref a) k.data → k.depth ≤ 8 → RelV v u → Dq K B v d → DNx K B kvs xs → DNx K B ((k, d) :: kvs) ((k, a, u) :: xs)
section
variable {K : PySem.W.Frag} {B C H : Hp} {kvs : List (NestedKey × PyData)} {xs : List NE}
theorem DNx.up (s : Same B C) : ∀ {kvs : List (NestedKey × PyData)} {xs : List NE}, DNx K B kvs xs → DNx K C kvs xs
  | _, _, .nil => .nil
  | _, _, .cons h1 h2 h3 h4 t => .cons (Dq.up s _ _ h1) h2 h3 (Dq.up s _ _ h4) (DNx.up s t)
theorem DNx.len : ∀ {kvs : List (NestedKey × PyData)} {xs : List NE}, DNx K B kvs xs → xs.length = kvs.length
  | _, _, .nil => rfl
  | _, _, .cons _ _ _ _ t => congrArg Nat.succ (DNx.len t)
theorem DNx.keys : ∀ {kvs : List (NestedKey × PyData)} {xs : List NE}, DNx K B kvs xs → xs.map (·.1) = kvs.map (·.1)
  | _, _, .nil => rfl
  | _, _, .cons _ _ _ _ t => congrArg (_ :: ·) (DNx.keys t)
theorem DNx.app1 {k : NestedKey} {d : PyData} {a : Addr} {u : Value} {v : V} (h1 : Dq K B (.ref a) k.data) (h2 : k.depth ≤ 8) (h3 : RelV v u) (h4 : Dq K B v d) : ∀ {kvs : List (NestedKey × PyData)} {xs : List NE}, DNx K B kvs xs → DNx K B (kvs ++ [(k, d)]) (xs ++ [(k, a, u)])
  | _, _, .nil => .cons h1 h2 h3 h4 .nil
  | _, _, .cons a b c e t => .cons a b c e (DNx.app1 h1 h2 h3 h4 t)
def kvAt (kvs : List (NestedKey × PyData)) (k : NestedKey) : Option PyData := (kvs.find? fun p => decide (p.1 = k)).map (·.2)
def kvPut (kvs : List (NestedKey × PyData)) (k : NestedKey) (d : PyData) : List (NestedKey × PyData) :=
  if (kvAt kvs k).isSome then kvs.map (fun p => if p.1 = k then (p.1, d) else p) else kvs ++ [(k, d)]
theorem DNx.at {k : NestedKey} : ∀ {kvs : List (NestedKey × PyData)} {xs : List NE}, DNx K B kvs xs → (∀ d, kvAt kvs k = some d → ∃ a u v, atKey xs k = some (a, u) ∧ RelV v u ∧ Dq K B v d) ∧ (kvAt kvs k = none → atKey xs k = none)
  | _, _, .nil => ⟨fun _ h => (nomatch h), fun _ => rfl⟩
  | _, _, .cons (k := k') (d := d') (a := a) (u := u) (v := v) (kvs := kvs) (xs := xs) h1 h2 h3 h4 t => by
    by_cases e : k' = k
    · have e1 : kvAt ((k', d') :: kvs) k = some d' := by simp [kvAt, e]
      have e2 : atKey ((k', a, u) :: xs) k = some (a, u) := by simp [atKey, e]
      rw [e1, e2]
      exact ⟨fun d hd => ⟨a, u, v, rfl, h3, (Option.some.inj hd) ▸ h4⟩, fun z => (nomatch z)⟩
    · have e1 : kvAt ((k', d') :: kvs) k = kvAt kvs k := by simp [kvAt, e]
      have e2 : atKey ((k', a, u) :: xs) k = atKey xs k := by simp [atKey, e]
      rw [e1, e2]
      exact DNx.at t
theorem DNx.isSome {k : NestedKey} (h : DNx K B kvs xs) : (atKey xs k).isSome = (kvAt kvs k).isSome := by
  cases q : kvAt kvs k with
  | none =>
    rw [h.at.2 q]
    rfl
  | some d =>
    obtain ⟨a, u, v, e, _⟩ := h.at.1 d q
    rw [e]
    rfl
theorem DNx.map {k : NestedKey} {d : PyData} {u : Value} {v : V} (h3 : RelV v u) (h4 : Dq K B v d) : ∀ {kvs : List (NestedKey × PyData)} {xs : List NE}, DNx K B kvs xs → DNx K B (kvs.map (fun p => if p.1 = k then (p.1, d) else p)) (xs.map (putAt k u))
  | _, _, .nil => .nil
  | _, _, .cons (k := k') (d := d') (a := a') (u := u') (v := v') (kvs := kvs) (xs := xs) g1 g2 g3 g4 t => by
    by_cases e : k' = k
    · have e1 : ((k', d') :: kvs).map (fun p => if p.1 = k then (p.1, d) else p) = (k', d) :: kvs.map (fun p => if p.1 = k then (p.1, d) else p) := by simp [e]
      have e2 : ((k', a', u') :: xs).map (putAt k u) = (k', a', u) :: xs.map (putAt k u) := by simp [putAt, e]
      rw [e1, e2]
      exact .cons g1 g2 h3 h4 (DNx.map h3 h4 t)
    · have e1 : ((k', d') :: kvs).map (fun p => if p.1 = k then (p.1, d) else p) = (k', d') :: kvs.map (fun p => if p.1 = k then (p.1, d) else p) := by simp [e]
      have e2 : ((k', a', u') :: xs).map (putAt k u) = (k', a', u') :: xs.map (putAt k u) := by simp [putAt, e]
      rw [e1, e2]
      exact .cons g1 g2 g3 g4 (DNx.map h3 h4 t)
theorem DNx.put {k : NestedKey} {d : PyData} {a : Addr} {u : Value} {v : V} (h1 : Dq K B (.ref a) k.data) (h2 : k.depth ≤ 8) (h3 : RelV v u) (h4 : Dq K B v d) (h : DNx K B kvs xs) : DNx K B (kvPut kvs k d) (storedH xs k a u) := by
  unfold kvPut storedH
  rw [h.isSome]
  split
  · exact h.map h3 h4
  · exact h.app1 h1 h2 h3 h4
end
/-! ### a datum that is a key, on the heap -/
section
variable {X : Cx} {pins : List (Addr × Obj)} {σ : L2.St} {H : Hp} {s : Shared}
mutual
theorem key_is (I : Inv X pins σ H s) : ∀ (k : NestedKey) (v : V) (u : Value), Dq X.K H v k.data → RelV v u → NestedIs s.heap k u
  | .none, _, _, h, r => by
    have h' : Dq X.K H _ PyData.none := h
    cases h'
    cases r
    exact .none
  | .num i, _, _, h, r => by
    have h' : Dq X.K H _ (PyData.int i) := h
    cases h'
    obtain ⟨t, rfl⟩ := r
    exact .int i t
  | .text x, _, _, h, r => by
    have h' : Dq X.K H _ (PyData.str x) := h
    cases h'
    obtain ⟨t, rfl⟩ := r
    exact .text x t
  | .tup ks, _, _, h, r => by
    have h' : Dq X.K H _ (PyData.tuple (NestedKey.datas ks)) := h
    cases h' with
    | tup hs ha =>
      cases r
      obtain ⟨its, rv, ⟨o, ho, hc, n, hd⟩, _⟩ := I.tuple hs
      exact .tup ho hc hd (by simpa using keys_are I ks _ its ha rv)
theorem keys_are (I : Inv X pins σ H s) : ∀ (ks : List NestedKey) (vs : List V) (us : List Value), DqAll X.K H vs (NestedKey.datas ks) → Vals vs us → NestedAll s.heap ks us
  | [], _, _, h, r => by
    have h' : DqAll X.K H _ [] := h
    cases h'
    cases r
    exact .nil
  | k :: ks, _, _, h, r => by
    have h' : DqAll X.K H _ (k.data :: NestedKey.datas ks) := h
    cases h' with
    | cons h1 h2 =>
      cases r with
      | cons r1 r2 => exact .cons (key_is I k _ _ h1 r1) (keys_are I ks _ _ h2 r2)
end
theorem dofh {d : Addr} {kvs : List (NestedKey × PyData)} {xs : List NE} (I : Inv X pins σ H s) (e : H d = some (dO X.prog X.w d xs)) (r : DNx X.K H kvs xs) : s.heap.DictOfH (nestedKind X.prog X.w) d xs := by
  obtain ⟨o, es, ep, h1, h2, h3, h4, h5⟩ := dO_raw I.hok e
  refine ⟨o, es, ep, h1, h2, h3, h4, fun x hx => ?_, h5⟩
  have all : ∀ {kvs : List (NestedKey × PyData)} {xs : List NE}, DNx X.K H kvs xs → ∀ x ∈ xs, (nestedKind X.prog X.w).is s.heap x.1 x.2.1 := by
    intro kvs xs r
    induction r with
    | nil => intro x hx; cases hx
    | cons g1 g2 g3 g4 t ih =>
      intro x hx
      rcases List.mem_cons.mp hx with rfl | hx
      · exact ⟨key_is I _ _ _ g1 rfl, g2⟩
      · exact ih x hx
  exact all r x hx
end
/-! ### the operations -/
/-- a frozen dict: its keys and data -/
def IsDict (P : Program) (w : World) (K : PySem.W.Frag) (kvs : List (NestedKey × PyData)) : Hp → V → Prop := fun B v => ∃ p xs, v = .ref p ∧ (p == sysModules) = false ∧ B p = some (dO P w p xs) ∧ DNx K B kvs xs ∧ kvs.length ≤ sizeLine
instance {P : Program} {w : World} {K : PySem.W.Frag} {kvs : List (NestedKey × PyData)} : Mono (IsDict P w K kvs) := ⟨fun s h => by
  obtain ⟨p, xs, e, m, q, r, z⟩ := h
  exact ⟨p, xs, e, m, s _ _ q, r.up s, z⟩⟩
section
variable {X : Cx} {o i e : Expr} {σ : L2.St} {B C H : Hp} {pos pos' pp : Pos} {D : Ends} {kvs : List (NestedKey × PyData)} {k : NestedKey} {d : PyData} {P P1 : Hp → V → Prop}
/-- name = {} -/
theorem ws_dnew {x : Str} (j : Nat) (q : ∀ p, H p = none → (p == sysModules) = false → D.nx (σ.set j (some (.ref p))) (upd H p (dO X.prog X.w p []))) (hN : X.N.Nodup) (hi : X.N[j]? = some x := by rfl) (hx : Loc X.env.scope x := by first | exact Or.inl rfl | exact Or.inr rfl)
    (hs : swapsWith (.Dict [] [] pp) (some (.Name x pos')) pos.line X.env = pure false := by rfl) (hf : X.fn x = true ∨ X.env.scope.names.lookup x = some .local := by first | exact .inl rfl | exact .inr rfl | assumption) : WS X (.Assign [.Name x pos'] (.Dict [] [] pp) pos) D σ H := by
  refine ws_of (ps_set hN hi hx peW hs hf) ?_
  intro pins s I
  refine wpAny_Dict_empty ⟨.ref s.heap.objs.size, _, I.laid (a := s.heap.objs.size) (o := dO X.prog X.w s.heap.objs.size []) (t' := s.toks) (fun _ _ z => Heap.get?_push_of_some _ z) (Nat.le_refl _) (dO_ok ?_), rfl, q _ (I.hok.fresh (Nat.le_refl _)) ?_⟩
  · obtain ⟨o, es, ep, h1, h2, h3, h4, _, h5⟩ := Heap.DictOfH.new (knd := nestedKind X.prog X.w) s.heap
    exact ⟨o, es, ep, h1, h2, h3, h4, h5⟩
  · have b := I.big
    exact beq_eq_false_iff_ne.mpr (fun z => absurd b (by rw [z]; exact Nat.lt_irrefl _))
/-- d[k] = e; d an own dict -/
theorem ws_dset {p : Addr} {xs : List NE} (hu : X.A.units + 32 < cLine) (he : XEat X e σ B H P1) [Mono P1] (ho : ∀ C, Same B C → XE X o σ C (Is (.ref p))) (hk : XE X i σ B (DD X.K k.data)) (hd : k.depth ≤ 8) (hd2 : ∃ ks, k = .tup ks) (s : Same B H) (hp : H p = some (dO X.prog X.w p xs)) (bp : B p = none)
    (r : DNx X.K B kvs xs) (hl : kvs.length < sizeLine) (q : ∀ v a u B' H', Gr B H B' H' → P1 B' v → RelV v u → Dq X.K B' (.ref a) k.data → H' p = some (dO X.prog X.w p xs) → D.nx σ (upd H' p (dO X.prog X.w p (storedH xs k a u))))
    (hs : swapsWith e (some (.Subscript o i pos')) pos.line X.env = pure false := by rfl) : WS X (.Assign [.Subscript o i pos'] e pos) D σ H := fun pins st I => by
  refine wpAny_Assign_Subscript ?_ hs
  refine thn (he (fun v H1 => ∃ B1, Gr B H B1 H1 ∧ P1 B1 v) (fun v B1 H1 g p1 => ⟨B1, g, p1⟩) pins st I) fun u s1 ⟨v, H1, I1, rv, B1, g1, p1⟩ => ?_
  refine thn (ho B1 g1.bb H1 g1.bh (fun v H2 => v = .ref p ∧ ∃ B2, Gr B1 H1 B2 H2) (fun v B2 H2 g p2 => ⟨p2, B2, g⟩) pins s1 I1) fun u2 s2 ⟨v2, H2, I2, rv2, e2, B2, g2⟩ => ?_
  subst e2
  obtain rfl : u2 = Value.ref p := rv2
  refine thn ((hk.up (g1.bb.trans g2.bb)) H2 g2.bh (fun v H3 => ∃ B3, Gr B2 H2 B3 H3 ∧ Dq X.K B3 v k.data) (fun v B3 H3 g p3 => ⟨B3, g, p3⟩) pins s2 I2) fun u3 s3 ⟨v3, H3, I3, rv3, B3, g3, p3⟩ => ?_
  obtain ⟨ks, rfl⟩ := hd2
  obtain ⟨a, ys, rfl, _⟩ : ∃ a ys, v3 = .ref a ∧ SqT X.K B3 a ys := by
    have p3' : Dq X.K B3 v3 (.tuple (NestedKey.datas ks)) := p3
    obtain ⟨a, ys, e1, e2, _⟩ := p3'.tup_v
    exact ⟨a, ys, e1, e2⟩
  obtain rfl : u3 = Value.ref a := rv3
  have g := (g1.trans g2).trans g3
  have hp3 : H3 p = some (dO X.prog X.w p xs) := g.hh _ _ hp
  have r3 := DNx.up (g.bb.trans g.bh) r
  have m3 := dofh I3 hp3 r3
  have p3h := Dq.up g3.bh _ _ p3
  refine wpAny_setItem_heap (knd := nestedKind X.prog X.w) (k := .tup ks) (hsz := by rw [r.len]; exact Nat.le_of_lt hl) (show (X.A.in1).units + 8 < cLine by show X.A.units + 1 + 8 < cLine; omega) ⟨key_is I3 _ _ _ p3h rfl, hd⟩ m3 fun h' hm' hs' => ?_
  obtain ⟨o', es', ep', a1, a2, a3, a4, _, a5⟩ := hm'
  refine ⟨σ, _, I3.write (x := p) (e := p) (o := dO X.prog X.w p (storedH xs (.tup ks) a u)) (t' := s3.toks + (nestedKind X.prog X.w).draws (.tup ks)) (by rw [hp3]; exact True.intro) (.inl rfl) (fun b z hb hz => (hs'.2 b hb).trans hz) ⟨_, a1⟩ (dO_ok ⟨o', es', ep', a1, a2, a3, a4, a5⟩), ?_⟩
  exact q v a u B3 H3 g (Mono.up (g2.bb.trans g3.bb) p1) rv p3 hp3
/-- d[k], there; d frozen -/
theorem x_dget (hu : X.A.units + 32 < cLine) (ho : XE X o σ B (IsDict X.prog X.w X.K kvs)) (hk : XE X i σ B (DD X.K k.data)) (hd : k.depth ≤ 8) (hd2 : ∃ ks, k = .tup ks) (h : kvAt kvs k = some d) (hs : NoSl i := by intro _ _; rfl) : XE X (.Subscript o i pos) σ B (DD X.K d) := fun H s Q q pins st I => by
  refine subD_of PySem.F.slot_dict_getitem.lookup hs ?_
  refine thn (ho H s (fun v H1 => ∃ B1, Gr B H B1 H1 ∧ IsDict X.prog X.w X.K kvs B1 v) (fun v B1 H1 g p1 => ⟨B1, g, p1⟩) pins st I) fun u s1 ⟨v, H1, I1, rv, B1, g1, p1⟩ => ?_
  refine thn (hk.up g1.bb H1 g1.bh (fun v H2 => ∃ B2, Gr B1 H1 B2 H2 ∧ Dq X.K B2 v k.data) (fun v B2 H2 g p2 => ⟨B2, g, p2⟩) pins s1 I1) fun u2 s2 ⟨v2, H2, I2, rv2, B2, g2, p2⟩ => ?_
  obtain ⟨p, xs, rfl, _, hp, r, _⟩ := p1
  obtain rfl : u = Value.ref p := rv
  obtain ⟨ks, rfl⟩ := hd2
  obtain ⟨a, ys, rfl, _⟩ : ∃ a ys, v2 = .ref a ∧ SqT X.K B2 a ys := by
    have p2' : Dq X.K B2 v2 (.tuple (NestedKey.datas ks)) := p2
    obtain ⟨a, ys, e1, e2, _⟩ := p2'.tup_v
    exact ⟨a, ys, e1, e2⟩
  obtain rfl : u2 = Value.ref a := rv2
  have r2 := r.up g2.bb
  have m2 := dofh I2 (g2.hh _ _ (g1.bh _ _ hp)) (r2.up g2.bh)
  obtain ⟨a', w', v', e1, e2, e3⟩ := r2.at.1 d h
  obtain ⟨o', es', ep', h1, h2, h3, h4, h5, h6⟩ := id m2
  refine ⟨⟨o', h1, h2.1⟩, wpAny_getItem_heap (knd := nestedKind X.prog X.w) (show (X.A.in1).units + 8 < cLine by show X.A.units + 1 + 8 < cLine; omega) ⟨key_is I2 _ _ _ (Dq.up g2.bh _ _ p2) rfl, hd⟩ m2 e1 ?_⟩
  exact ⟨v', H2, I2.tok _, e2, q v' B2 H2 (g1.trans g2) e3⟩
end
end TW
/-! TwG1: list(d); repr; sorted of alike data. -/
namespace TW
open PySem PySem.Spec PyProof.Rows L2
section
variable {X : Cx} {o i e a : Expr} {σ : L2.St} {B C H : Hp} {pos pos' pp : Pos} {D : Ends} {kvs : List (NestedKey × PyData)} {k : NestedKey} {d : PyData} {ds : List PyData} {P P1 : Hp → V → Prop}
/-- the keys, in order -/
def keysD (kvs : List (NestedKey × PyData)) : List PyData := kvs.map fun p => p.1.data
theorem DNx.keysAll {K : PySem.W.Frag} : ∀ {kvs : List (NestedKey × PyData)} {xs : List NE}, DNx K B kvs xs → DqAll K B (xs.map fun x => V.ref x.2.1) (keysD kvs)
  | _, _, .nil => .nil
  | _, _, .cons h1 _ _ _ t => .cons h1 (DNx.keysAll t)
theorem vals_keys : ∀ xs : List NE, Vals (xs.map fun x => V.ref x.2.1) (xs.map fun x => Value.ref x.2.1)
  | [] => .nil
  | _ :: t => .cons (Eq.refl _) (vals_keys t)
def rLstN (X : Cx) (kvs : List (NestedKey × PyData)) : List V → Hp → VK → Prop := fun vs H Q => ∃ p xs, vs = [.ref p] ∧ (p == sysModules) = false ∧ H p = some (dO X.prog X.w p xs) ∧ DNx X.K H kvs xs ∧ kvs.length ≤ sizeLine ∧ ∀ q, H q = none → Q (.ref q) (upd H q (.lst (xs.map fun x => V.ref x.2.1)))
theorem call_listN (hc : X.calm = true) : CallR X (.type "list") (rLstN X kvs) := by
  intro pins s σ H vs us Q I r h
  obtain ⟨p, xs, rfl, hs, hp, dn, hz, q⟩ := h
  obtain ⟨u, rfl, rx⟩ := r.one
  cases rx
  obtain ⟨ob, es, ep, ho, hx, hdt, he, _⟩ := dO_raw I.hok hp
  have l1 : es.size = xs.length := size_of_entries he
  have l2 : xs.length = kvs.length := dn.len
  refine PySem.W.kdl_call (kdl_raw hs hx hdt) (I.ok.hd hc) ho (by omega) fun h' tk acc c kp e it => ?_
  have ea : acc.toList = xs.map fun x => Value.ref x.2.1 := by
    have hl : acc.toList.length = xs.length := by rw [Array.length_toList, it.1]; exact l1
    refine List.ext_getElem? fun j => ?_
    rw [List.getElem?_map]
    cases hj : acc.toList[j]? with
    | none =>
      have h1 := List.getElem?_eq_none_iff.mp hj
      rw [List.getElem?_eq_none (by omega)]
      exact Eq.refl _
    | some v =>
      obtain ⟨en, hen, hv⟩ := it.2 j v (by rw [← Array.getElem?_toList]; exact hj)
      have qe := entry_at he j
      rw [hen] at qe
      cases hb : xs[j]? with
      | none =>
        rw [hb] at qe
        exact nomatch (show some en = none from qe)
      | some b =>
        rw [hb] at qe
        have e2 : en = entryOfKey (nestedKind X.prog X.w) b := Option.some.inj qe
        rw [hv, e2]
        exact Eq.refl _
  have lz : (xs.map fun x => V.ref x.2.1).length ≤ sizeLine := by rw [List.length_map]; omega
  refine ⟨.ref s.heap.objs.size, _, I.laid (t' := tk) (o := .lst (xs.map fun x => V.ref x.2.1)) kp (Nat.le_refl _) ⟨lz, acc.toList, c, by rw [ea]; exact vals_keys xs, by rw [Array.toArray_toList]; exact e⟩, Eq.refl _, q _ (I.hok.fresh (Nat.le_refl _))⟩
instance monoNil : MonoL (fun (_ : Hp) (vs : List V) => vs = []) := ⟨fun _ h => h⟩
theorem x_listN (hc : X.calm = true) (hg : Gl X "list") (hm : X.mg "list" = none) (ha : XE X a σ B (IsDict X.prog X.w X.K kvs)) (hs1 : starEach [a] X.env = (false, eval a X.env) :: starEach [] X.env := by rfl) : XE X (.Call (.Name "list" pp) [a] [] pos) σ B (DD X.K (.list (keysD kvs))) :=
  x_callTy (P0 := fun C vs => ∃ v, vs = [v] ∧ IsDict X.prog X.w X.K kvs C v) (call_listN hc) hg hm (by decide +kernel) (xa_cons (PL := fun _ vs => vs = []) (P0 := IsDict X.prog X.w X.K kvs) ha (xa_nil (Eq.refl _)) (fun C v vs _ h1 h2 => ⟨v, by rw [h2], h1⟩) hs1) (he := hs1) fun C H vs _ s pv Q q => by
    obtain ⟨v, rfl, p, xs, rfl, hs, hp, dn, hz⟩ := pv
    exact ⟨p, xs, Eq.refl _, hs, s _ _ hp, dn.up s, hz, fun r hr => q _ _ _ (.new s hr) (.lst upd_same (DqAll.up (same_new (s.free hr)) _ _ dn.keysAll))⟩
/-! ### repr -/
def rRepr (X : Cx) (d : PyData) : List V → Hp → VK → Prop := fun vs H Q => ∃ a, vs = [.ref a] ∧ Dq X.K H (.ref a) d ∧ Q (.str d.shown) H
theorem call_repr (hg : X.A.guards = some []) (hu : X.A.units + (d.depth + 1) < cLine) (h1 : d.showable = true) (h2 : d.hasDict = false) (h3 : d.shown.length ≤ sizeLine) : CallR X (.builtin "repr") (rRepr X d) := by
  intro pins s σ H vs us Q I r h
  obtain ⟨a, rfl, dq, q⟩ := h
  obtain ⟨u, rfl, rx⟩ := r.one
  obtain rfl : u = Value.ref a := rx
  obtain ⟨as, rd⟩ := Dp.reads I d _ (Value.ref a) (Dq.dp _ _ dq) rfl
  exact repr_of_reads' rd h1 (fun z => by rw [h2] at z; cases z) hg hu (fun _ _ e => e) (fun h' u tk k => ⟨.str d.shown, H, I.kept k, ⟨u, rfl⟩, q⟩) h3
theorem x_repr (hg : X.A.guards = some []) (hu : X.A.units + (d.depth + 1) < cLine) (h1 : d.showable = true) (h2 : d.hasDict = false) (h3 : d.shown.length ≤ sizeLine) (hd : ∃ ds, d = .list ds) (hgl : Gl X "repr") (hm : X.mg "repr" = none) (ha : XE X a σ B (DD X.K d))
    (hs1 : starEach [a] X.env = (false, eval a X.env) :: starEach [] X.env := by rfl) : XE X (.Call (.Name "repr" pp) [a] [] pos) σ B (DD X.K (.str d.shown)) :=
  x_callB (call_repr hg hu h1 h2 h3) hgl hm (by decide +kernel) (xd_cons ha xd_nil hs1) (he := hs1) fun C H vs _ s pv Q k => by
    cases pv with
    | cons p1 p2 =>
      cases p2
      obtain ⟨ds, rfl⟩ := hd
      obtain ⟨l, xs, rfl, _⟩ := Dq.lst_v p1
      exact ⟨l, rfl, Dq.up s _ _ p1, k _ C H (.rfl s) (.str _)⟩
/-! ### sorted of alike data -/
theorem eachV {K : PySem.W.Frag} {β : Type} {pins : List (Addr × Obj)} {sh : Shared} (enc : β → PyData) (I : L2.Inv X pins σ H sh) (sc : Same C H) : ∀ (bs : List β) (xs : List V) (us : List Value), DqAll X.K C xs (bs.map enc) → Vals xs us → PySem.W.EachIs (fun u b => (∃ v, RelV v u ∧ Dq X.K C v (enc b)) ∧ ∃ as, Reads sh.heap u (enc b) as) us bs
  | [], _, _, h, r => by
    have h' : DqAll X.K C _ [] := h
    cases h'
    cases r
    exact .nil
  | b :: bs, _, _, h, r => by
    have h' : DqAll X.K C _ (enc b :: bs.map enc) := h
    cases h' with
    | cons h1 h2 =>
      cases r with
      | cons r1 r2 => exact .cons ⟨⟨_, r1, h1⟩, Dp.reads I _ _ _ (Dq.dp _ _ (Dq.up sc _ _ h1)) r1⟩ (eachV (K := K) enc I sc bs _ _ h2 r2)
theorem eachOut {β : Type} (enc : β → PyData) : ∀ {us : List Value} {bs : List β}, PySem.W.EachIs (fun u b => ∃ v, RelV v u ∧ Dq X.K C v (enc b)) us bs → ∃ xs, Vals xs us ∧ DqAll X.K C xs (bs.map enc)
  | _, _, .nil => ⟨[], .nil, .nil⟩
  | _, _, .cons ⟨v, h1, h2⟩ t => by
    obtain ⟨xs, h3, h4⟩ := eachOut enc t
    exact ⟨v :: xs, .cons h1 h3, .cons h2 h4⟩
def rSortD (X : Cx) {β : Type} (enc : β → PyData) (bs : List β) : List V → Hp → VK → Prop := fun vs H Q => ∃ a xs C, vs = [.ref a] ∧ H a = some (.lst xs) ∧ Same C H ∧ DqAll X.K C xs (bs.map enc) ∧ ∀ q ys, H q = none → DqAll X.K C ys ((bs.mergeSort (PySem.W.dataLe false enc)).map enc) → Q (.ref q) (upd H q (.lst ys))
/-- the values of these data can be sorted, wherever they stand -/
def SortOk (X : Cx) (A : Around) (ds : List PyData) : Prop := ∀ (s : Shared) (vs : List Value), PySem.W.EachIs (fun v d => ∃ as, Reads s.heap v d as) vs ds → PySem.W.SortsAt X.prog X.w A s (PySem.W.dataKind s.heap ds) vs
theorem call_sortD {β : Type} {enc : β → PyData} {bs : List β} (hal : PySem.W.AllAlike (bs.map enc)) (hk : SortOk X X.A.in1.in1 (bs.map enc)) (hL : bs.length ≤ sizeLine) : CallR X (.builtin "sorted") (rSortD X enc bs) := by
  intro pins s σ H vs us Q I r h
  obtain ⟨a, xs, C, rfl, ha, sc, dq, q⟩ := h
  obtain ⟨u, rfl, rx⟩ := r.one
  obtain rfl : u = Value.ref a := rx
  obtain ⟨its, rv, pl, hz⟩ := I.list (.of ha)
  have ev := eachV (K := X.K) enc I sc bs xs its dq rv
  have er : PySem.W.EachIs (fun v b => ∃ as, Reads (PySem.W.sortingHeap (PySem.W.copyHeap s.heap its) (s.heap.objs.size + 1) its) v (enc b) as) its bs :=
    ev.mono fun _ _ z => z.2.elim fun as rr => ⟨as, PyProof.Rows.Reads.keeps (fun _ _ => PySem.W.sorting_copy_old) rr⟩
  have so := hk { s with heap := PySem.W.sortingHeap (PySem.W.copyHeap s.heap its) (s.heap.objs.size + 1) its } its (PySem.W.each_map (R := fun v d => ∃ as, Reads (PySem.W.sortingHeap (PySem.W.copyHeap s.heap its) (s.heap.objs.size + 1) its) v d as) enc er)
  refine PySem.W.sorted_vals pl.isList so (by rw [ev.length]; exact hL) ?_
  have eo := PySem.W.sortVals_data (R := fun u b => ∃ v, RelV v u ∧ Dq X.K C v (enc b)) false (ev.mono fun _ _ z => z.1) er hal
  obtain ⟨ys, h1, h2⟩ := eachOut (X := X) (C := C) enc eo
  obtain ⟨ep, he⟩ := PyProof.Rows.sortedAll_at s.heap its (List.toArray _)
  have hlen : ys.length ≤ sizeLine := by
    rw [h2.length, List.length_map, List.length_mergeSort]
    exact hL
  exact ⟨.ref _, upd H (s.heap.objs.size + 1) (.lst ys), I.laid (t' := s.toks) (fun _ _ => PyProof.Rows.sortedAll_old) (Nat.le_succ _) ⟨hlen, _, ep, h1, he⟩, Eq.refl _, q _ ys (I.hok.fresh (Nat.le_succ _)) h2⟩
theorem x_sorted {β : Type} {enc : β → PyData} {bs : List β} (hal : PySem.W.AllAlike (bs.map enc)) (hk : SortOk X X.A.in1.in1 (bs.map enc)) (hL : bs.length ≤ sizeLine) (hgl : Gl X "sorted") (hm : X.mg "sorted" = none) (ha : XE X a σ B (DD X.K (.list (bs.map enc))))
    (hs1 : starEach [a] X.env = (false, eval a X.env) :: starEach [] X.env := by rfl) : XE X (.Call (.Name "sorted" pp) [a] [] pos) σ B (DD X.K (.list ((bs.mergeSort (PySem.W.dataLe false enc)).map enc))) :=
  x_callB (call_sortD hal hk hL) hgl hm (by decide +kernel) (xd_cons ha xd_nil hs1) (he := hs1) fun C H vs _ s pv Q k => by
    cases pv with
    | cons p1 p2 =>
      cases p2
      obtain ⟨l, xs, rfl, h1, r1⟩ := Dq.lst_v p1
      exact ⟨l, xs, C, rfl, s _ _ h1, s, r1, fun q ys hq hy => k _ _ _ (.new s hq) (.lst upd_same (DqAll.up (same_new (s.free hq)) _ _ hy))⟩
end
end TW
/-! TwG2: data that can be sorted: tuples, one of them empty. -/
namespace TW
open PySem PySem.Spec PyProof.Rows L2
section
variable {prog : Program} {w : World} {M : Model} {A : Around} {E : Value → Shared → Prop} {s : Shared}
theorem call_tuple_ltT {Q : Value → Shared → Prop} {l b : Addr} {items items2 : Array Value} {e r : Nat → Bool} (hl : s.heap.IsTuple l items) (hb : s.heap.IsTuple b items2)
    (he : ∀ j (h1 : j < items.size) (h2 : j < items2.size), SeqAt.EqAt A.in1 s items[j] items2[j] (e j)) (hr : ∀ j (h1 : j < items.size) (h2 : j < items2.size), e j = false → SeqAt.RcLt A.in1 s items[j] items2[j] (r j))
    (h : Q (.bool (SeqAt.firstLt e r (decide (items.size < items2.size)) (List.range (min items.size items2.size)))) s) : wpAny (model prog w) A (call (.builtin "tuple.__lt__") [.ref l, .ref b]) Q E s := by
  obtain ⟨⟨c1, d1, dt1, sl1⟩, g1, g2, n1, g3⟩ := id hl
  obtain ⟨⟨c2, d2, dt2, sl2⟩, k1, k2, n2, k3⟩ := id hb
  simp only at g2 g3 k2 k3
  subst g2 g3 k2 k3
  exact call_meets F.slot_tuple_lt ⟨_, g1, rfl⟩ F.entry_tuple_lt (F.args_tuple_lt_2 _ _) (SeqAt.tuple_ltAt l b items items2 n1 n2 d1 d2 sl1 sl2 e r) ⟨g1, k1, he, hr, h⟩
/-- < of two tuples, as sorting asks it where all keys are of one type -/
theorem oneLt_tups {xs ys : List PyData} {a b : Value} {as bs : List Addr} {Q : Bool → Shared → Prop} (ra : Reads s.heap a (.tuple xs) as) (rb : Reads s.heap b (.tuple ys) bs) (h : PySem.W.alike (.tuple xs) (.tuple ys) = true)
    (hu : A.units + min (PyData.tuple xs).depth (PyData.tuple ys).depth < cLine) (hq : Q (PySem.W.dataLt (.tuple xs) (.tuple ys)) s) : wpAny (model prog w) A (oneLt' true a b) Q E s := by
  have hal : PySem.W.alikeAll xs ys = true := by simpa [PySem.W.alike] using h
  cases ra with
  | @tuple l o vs n _ as₁ h1 h2 h3 h4 =>
    cases rb with
    | @tuple l' o' vs' n' _ bs₁ k1 k2 k3 k4 =>
      have n1 : vs.size = xs.length := by simpa using SeqAt.ReadsAll.length _ _ _ h4
      have n2 : vs'.size = ys.length := by simpa using SeqAt.ReadsAll.length _ _ _ k4
      rw [PySem.W.dataLt_tuple, ← PySem.W.firstLt_toks xs ys hal, ← n1, ← n2] at hq
      rw [oneLt'_eq]
      simp only [if_true]
      refine wpAny_bind (wpAny_cRoomFor (SeqAt.room_here hu) ?_)
      refine wpAny_bind (wpAny_callSpecialIfBound?_slot (T := "tuple") ⟨_, h1, h2⟩ F.slot_tuple_lt (call_tuple_ltT (e := PySem.SeqAt.pairEq xs ys) (r := fun j => PySem.W.dataLt (xs.getD j .none) (ys.getD j .none)) ⟨_, h1, h2, _, h3⟩ ⟨_, k1, k2, _, k3⟩ (fun j j1 j2 => ?_) (fun j j1 j2 hj => ?_) ?_))
      · have q := PySem.W.eqAt_alikeAll xs ys A.in1 s vs.toList vs'.toList _ _ h4 k4 hal (SeqAt.room_in hu) j (by simpa using j1) (by simpa using j2)
        simpa using q
      · have q := PySem.W.rcLt_alikeAll xs ys A.in1 s vs.toList vs'.toList _ _ h4 k4 hal (SeqAt.room_in hu) j (by simpa using j1) (by simpa using j2) hj
        simpa using q
      · exact wpAny_truthy_bool hq
/-- v is a tuple whose first item is f (none: it is empty) -/
def TupF (h : Heap) (v : Value) (f : Option Value) : Prop := ∃ a o its n, v = .ref a ∧ h.get? a = some o ∧ o.cls = .type "tuple" ∧ o.data = .seq its n ∧ its[0]? = f
theorem firsts_tup : ∀ (vs : List Value) (fs : List (Option Value)) {Q : List (Option Value) → Shared → Prop}, PySem.W.EachIs (TupF s.heap) vs fs → Q fs s → wpAny M A (vs.mapM firstOfTuple') Q E s
  | [], _, _, h, q => by
    cases h
    rw [List.mapM_nil]
    exact wpAny_pure q
  | v :: vs, _, Q, h, q => by
    cases h with
    | @cons _ f _ fs h t =>
      obtain ⟨a, o, its, n, rfl, h1, h2, h3, h4⟩ := h
      rw [List.mapM_cons]
      refine wpAny_bind ?_
      rw [PySem.W.kas_first_eq]
      refine wpAny_bind (PySem.W.Looks.here (show PySem.W.Looks M s.heap (typeOf (.ref a)) o.cls from (PySem.W.Looks.ld h1).andThen .now) ?_)
      rw [h2, if_neg (by first | decide | simp)]
      refine wpAny_bind (listItems_at h1 h3 (wpAny_pure ?_))
      rw [h4]
      exact wpAny_bind (firsts_tup vs fs (Q := fun bs s' => wpAny M A (pure (f :: bs)) Q E s') t (wpAny_pure q))
theorem kind_tup {vs : List Value} {fs : List (Option Value)} {Q : SortKind → Shared → Prop} (h : PySem.W.EachIs (TupF s.heap) vs (none :: fs)) (hq : Q oneType' s) : wpAny M A (keyKind' vs.toArray) Q E s := by
  rw [keyKind'_eq, List.mapM_toArray, map_eq_pure_bind]
  refine wpAny_bind (wpAny_bind (firsts_tup vs _ h (wpAny_pure ?_)))
  rw [if_neg (by simp), if_neg (by simp)]
  have hT : ∀ v ∈ vs, PySem.W.Looks M s.heap (typeOf v) (Value.type "tuple") := fun v hv => by
    obtain ⟨f, _, a, o, its, n, rfl, h1, h2, _⟩ := h.left v hv
    exact h2 ▸ (PySem.W.Looks.ld h1).andThen .now
  rw [oneTypeOnly'_eq, List.mapM_toArray, map_eq_pure_bind]
  refine wpAny_bind (wpAny_bind (wpAny_bind (PySem.W.kas_mapM (r := Value.type "tuple") _ (fun v hv Q' hq => (hT v hv).here hq) (wpAny_pure ?_))))
  obtain ⟨v1, vr, rfl⟩ : ∃ v1 vr, vs = v1 :: vr := by
    cases h
    exact ⟨_, _, rfl⟩
  have h0 : (List.map (fun _ => Value.type "tuple") (v1 :: vr)).toArray[0]? = some (Value.type "tuple") := by simp
  have hall : ((List.map (fun _ => Value.type "tuple") (v1 :: vr)).toArray.all fun x => x == Value.type "tuple") = true := by simp
  rw [h0]
  simp only [hall, if_true]
  exact wpAny_pure (by simpa using wpAny_pure hq)
end
/-- tuples, the first of them empty -/
theorem sortOk_tups {X : Cx} {A : Around} {dss : List (List PyData)} (hal : PySem.W.AllAlike (PyData.tuple [] :: dss.map .tuple)) (hu : ∀ ds ∈ [] :: dss, A.units + (PyData.tuple ds).depth < cLine) : SortOk X A (PyData.tuple [] :: dss.map .tuple) := fun s vs e => by
  have inAll : ∀ d, d ∈ PyData.tuple [] :: dss.map PyData.tuple → ∃ ds, ds ∈ [] :: dss ∧ d = .tuple ds := fun d hd => by
    rcases List.mem_cons.mp hd with rfl | hd
    · exact ⟨[], .head _, rfl⟩
    · obtain ⟨ds, h1, rfl⟩ := List.mem_map.mp hd
      exact ⟨ds, .tail _ h1, rfl⟩
  refine ⟨fun v hv => ?_, oneType', ?_, fun h2 E Q hq => ?_⟩
  · obtain ⟨d, hd, as, r⟩ := e.left v hv
    exact ⟨_, PySem.W.dataKind_some hal hd r⟩
  · intro E x y a b Q ha hb hq
    obtain ⟨d, as, hd, ra, rfl⟩ := PySem.W.dataKind_inv ha
    obtain ⟨d', as', hd', rb, rfl⟩ := PySem.W.dataKind_inv hb
    have hdd := hal d hd d' hd'
    obtain ⟨xs, hx, rfl⟩ := inAll d hd
    obtain ⟨ys, hy, rfl⟩ := inAll d' hd'
    rw [keyLt'_oneType]
    exact oneLt_tups ra rb hdd (Nat.lt_of_le_of_lt (Nat.add_le_add_left (Nat.min_le_left _ _) _) (hu xs hx)) hq
  · have fr : ∀ {vs : List Value} {ds : List PyData}, PySem.W.EachIs (fun v d => ∃ as, Reads s.heap v d as) vs ds → (∀ d ∈ ds, ∃ xs, d = .tuple xs) → ∃ fs, PySem.W.EachIs (TupF s.heap) vs fs ∧ (∀ dr, ds = PyData.tuple [] :: dr → ∃ fr, fs = none :: fr) := by
      intro vs ds e
      induction e with
      | nil => exact fun _ => ⟨[], .nil, fun dr h => (nomatch h)⟩
      | @cons v d vs ds h t ih =>
        intro hd
        obtain ⟨fs, g1, _⟩ := ih fun d hd' => hd d (.tail _ hd')
        obtain ⟨xs, rfl⟩ := hd d (.head _)
        obtain ⟨as, r⟩ := h
        cases r with
        | @tuple l o its n _ _ h1 h2 h3 h4 =>
          refine ⟨its[0]? :: fs, .cons ⟨l, o, its, n, rfl, h1, h2, h3, rfl⟩ g1, fun dr hdr => ?_⟩
          have q := (List.cons.inj hdr).1
          cases q
          have z : its.size = 0 := by simpa using SeqAt.ReadsAll.length _ _ _ h4
          exact ⟨fs, by rw [Array.getElem?_eq_none (by omega)]⟩
    obtain ⟨fs, g1, g2⟩ := fr e fun d hd => let ⟨xs, _, e⟩ := inAll d hd; ⟨xs, e⟩
    obtain ⟨fr, rfl⟩ := g2 _ rfl
    exact kind_tup g1 hq
end TW
/-! TwG3: starred items and targets; len(set(..)). -/
namespace TW
open PySem PySem.Spec PyProof.Rows L2 RZ
section
variable {X : Cx} {o i e a : Expr} {es : List Expr} {σ σ2 : L2.St} {B C H : Hp} {pos pos' pp p1 p2 p3 p4 : Pos} {D : Ends} {d : PyData} {ds fs : List PyData} {P P1 : Hp → V → Prop}
/-! ### [*xs, ..] -/
/-- the items of a list or a tuple -/
theorem star_of {pins : List (Addr × Obj)} {s : Shared} {l : Addr} {xs : List V} {Q : List Value → Shared → Prop} {E : Value → Shared → Prop} (I : L2.Inv X pins σ H s) (h : H l = some (.lst xs) ∨ SqT X.K H l xs) (k : ∀ s' us, L2.Inv X pins σ H s' → Vals xs us → Q us s') : PySem.W.StarOf (model X.prog X.w) X.A E (.ref l) Q s := by
  unfold PySem.W.StarOf notIterableAtAll
  rcases h with h | h
  · obtain ⟨its, rv, ⟨ob, n, ho, hc, hd, he⟩, hz⟩ := I.list (.of h)
    have hT : s.TypeIs (.ref l) "list" := ⟨ob, ho, hc⟩
    refine wpAny_bind (wpAny_specialOf hT PySem.F.slot_list_iter.lookup (wpAny_pure ⟨rfl, ?_⟩))
    exact wpAny_collect_seq l (.inl rfl) ho hc he (fun h' hk => k _ _ (I.kept (t' := s.toks) hk) (by simpa using rv)) (by rw [List.size_toArray, ← rv.length]; exact hz)
  · obtain ⟨its, rv, ⟨ob, ho, hc, n, he⟩, hz⟩ := I.tuple h
    have hT : s.TypeIs (.ref l) "tuple" := ⟨ob, ho, hc⟩
    refine wpAny_bind (wpAny_specialOf hT PySem.F.slot_tuple_iter.lookup (wpAny_pure ⟨rfl, ?_⟩))
    exact wpAny_collect_seq l (.inr rfl) ho hc he (fun h' hk => k _ _ (I.kept (t' := s.toks) hk) (by simpa using rv)) (by rw [List.size_toArray, ← rv.length]; exact hz)
theorem xd_star (h : XE X e σ B (DD X.K d)) (hd : d = .list ds ∨ d = .tuple ds) (hr : XD X es σ B fs) (hs : starEach (.Starred e pp :: es) X.env = (true, eval e X.env) :: starEach es X.env := by rfl) : XD X (.Starred e pp :: es) σ B (ds ++ fs) := fun H s Q k pos pins st I => by
  refine PySem.W.items_star ?_ hs
  refine thn (h H s (fun v H1 => ∃ B1, Gr B H B1 H1 ∧ Dq X.K B1 v d) (fun v B1 H1 g p1 => ⟨B1, g, p1⟩) pins st I) fun u s1 ⟨v, H1, I1, rv, B1, g1, q1⟩ => ?_
  have go : ∀ {l : Addr} {xs : List V}, (H1 l = some (.lst xs) ∨ SqT X.K H1 l xs) → DqAll X.K B1 xs ds → PySem.W.StarOf (model X.prog X.w) X.A X.xe (.ref l) (fun here s2 => wpAny (model X.prog X.w) X.A (spliced (backTo pos (starEach es X.env))) (fun vs s3 => AP X pins σ Q (here ++ vs) s3) X.xe s2) s1 := fun {l xs} hl r => by
    refine star_of I1 hl fun s2 us I2 ru => ?_
    refine thn (hr.up g1.bb H1 g1.bh (fun vs H3 => ∃ B3, Gr B1 H1 B3 H3 ∧ DqAll X.K B3 vs fs) (fun v B3 H3 g p3 => ⟨B3, g, p3⟩) pos pins s2 I2) fun ws s3 ⟨vs, H3, I3, rw', B3, g3, q3⟩ => ?_
    exact ⟨xs ++ vs, H3, I3, ru.append rw', k _ B3 H3 (g1.trans g3) ((DqAll.up g3.bb _ _ r).app q3)⟩
  rcases hd with rfl | rfl
  · obtain ⟨l, xs, rfl, h1, r1⟩ := Dq.lst_v q1
    cases rv
    exact go (.inl (g1.bh _ _ h1)) r1
  · obtain ⟨l, xs, rfl, h1, r1⟩ := Dq.tup_v q1
    cases rv
    exact go (.inr (Same.seqT g1.bh h1)) r1
/-! ### a, b, *c = a tuple -/
theorem sp_next {pins : List (Addr × Obj)} {s : Shared} {x y z : Str} {l : Addr} {v1 v2 : V} {vs : List V} {i j k : Nat} {Q : L2.St → Hp → Prop} {kk : Nat} (hc : X.calm = true) (hN : X.N.Nodup) (I : L2.Inv X pins σ H s) (hq : SqT X.K H l (v1 :: v2 :: vs)) (hz : vs.length ≤ 1000)
    (hi : X.N[i]? = some x) (hj : X.N[j]? = some y) (hk : X.N[k]? = some z) (lx : X.env.scope.names.lookup x = some .local) (ly : X.env.scope.names.lookup y = some .local) (lz : X.env.scope.names.lookup z = some .local)
    (q : ∀ D, H D = none → Q (((σ.set i (some v1)).set j (some v2)).set k (some (.ref D))) (upd H D (.lst vs))) :
    wpAny (model X.prog X.w) X.A (assign (.Tuple [.Name x p1, .Name y p2, .Starred (.Name z p3) p4] kk pos) X.env (.ref l)) (fun _ s' => ∃ σ' H', L2.Inv X pins σ' H' s' ∧ Q σ' H') X.xe s := by
  obtain ⟨its, rv, ht, _⟩ := I.tuple hq
  obtain ⟨u1, u2, us, rfl, r1, r2, r3⟩ : ∃ u1 u2 us, its = u1 :: u2 :: us ∧ RelV v1 u1 ∧ RelV v2 u2 ∧ Vals vs us := by
    cases rv with
    | cons a t =>
      cases t with
      | cons b t => exact ⟨_, _, _, rfl, a, b, t⟩
  have hlt : l ≠ s.heap.objs.size := by obtain ⟨ob, ho, _⟩ := ht; exact Nat.ne_of_lt (Heap.lt_size ho)
  have hh := I.ok.hd hc
  rw [assign_Tuple]
  refine wpAny_bind (wpAny_standAt ?_)
  show wpAny _ _ (unpack (.ref l) [(false, assign (.Name x p1) X.env), (false, assign (.Name y p2) X.env), (true, assign (.Name z p3) X.env)]) _ _ _
  unfold unpack
  show wpAny _ _ (do let items ← holding [.ref l] (unpackItems (.ref l) 3 (some 2)); assignInOrder [assign (.Name x p1) X.env, assign (.Name y p2) X.env, assign (.Name z p3) X.env] items) _ _ _
  refine wpAny_bind (wpAny_holding ?_)
  unfold unpackItems notIterableAtAll
  refine wpAny_bind (wpAny_bind (wpAny_specialOf ht.typeIs slot_tuple_iter.lookup (wpAny_pure ?_)))
  simp only [Bool.false_eq_true, if_false]
  refine wpAny_bind (wpAny_holding (iter_tuple ht ?_))
  refine wpAny_bind (wpAny_holding (draw_tuple hlt 2 0 _ _ ⟨_, Heap.get?_push_size _ rfl, rfl, rfl⟩ (ht.push _) (by simp) fun h1 it1 sb1 => ?_))
  have ht1 : IsTup h1 l (u1 :: u2 :: us).toArray := (ht.push _).extBut sb1.extBut hlt
  rw [Nat.zero_add] at it1
  obtain ⟨oi, hoi, _⟩ := id it1
  obtain ⟨ol, hol, _⟩ := id ht1
  have hz3 := r3.length
  simp only [List.drop_zero]
  rw [if_neg (by simp)]
  refine wpAny_bind (wpAny_holding (PySem.W.kun_collect (s := { s with heap := h1 }) (T := "tuple_iterator") (.inr (.inr (.inr rfl))) (Walks.tuple (A := X.A.in1) hh s.heap.objs.size l hlt (u1 :: u2 :: us).toArray) (fun j u st => st.1.typeIs) (k := 2) (by simp) ⟨it1, ht1⟩ (Heap.lt_size hoi) (Heap.lt_size hol) (fun h2 tk hk2 => ?_) (by simp; rw [sizeLine_eq]; omega)))
  rw [if_neg (by simp)]
  have kept2 : ∀ b ob, s.heap.get? b = some ob → h2.get? b = some ob := fun b ob e => hk2 b ob (Nat.ne_of_lt (Heap.lt_size e)) (sb1.extBut b ob (Nat.ne_of_lt (Heap.lt_size e)) (Heap.get?_push_of_some _ e))
  have I2 : L2.Inv X pins σ H { s with heap := h2, toks := tk } := I.kept kept2
  have eD : (List.take ((List.drop 2 (u1 :: u2 :: us)).length - (3 - 1 - 2)) (List.drop 2 (u1 :: u2 :: us))) = us := by simp
  simp only [eD, List.toList_toArray]
  refine wpAny_bind (wpAny_newObj_type (wpAny_pure ?_) (by show us.toArray.size ≤ sizeLine; rw [sizeLine_eq]; simp; omega))
  have I3 := I2.lnew (t' := tk) (ys := vs) (its := us) r3 (by rw [sizeLine_eq]; omega)
  have hD := I2.fresh
  show wpAny _ _ (assignInOrder _ ([u1, u2] ++ [Value.ref _] ++ List.drop _ _)) _ _ _
  have e2 : ([u1, u2] ++ [Value.ref h2.objs.size] ++ List.drop ((List.drop 2 (u1 :: u2 :: us)).length - (3 - 1 - 2)) (List.drop 2 (u1 :: u2 :: us))) = [u1, u2, Value.ref h2.objs.size] := by simp
  rw [e2]
  refine assignInOrder_cons (wpAny_assign_Name (store_ok I3 hN hi (.inl lx) r1 (fun s4 I4 => ?_) (.inr lx)))
  refine assignInOrder_cons (wpAny_assign_Name (store_ok I4 hN hj (.inl ly) r2 (fun s5 I5 => ?_) (.inr ly)))
  refine assignInOrder_cons (wpAny_assign_Name (store_ok (v := .ref h2.objs.size) I5 hN hk (.inl lz) rfl (fun s6 I6 => ?_) (.inr lz)))
  exact assignInOrder_nil ⟨_, _, I6, q _ hD⟩
/-! ### len(set(xs)) -/
theorem x_lenSet {ns : List Int} {q : Pos} (hc : X.calm = true) (hg : Gl X "len") (hm : X.mg "len" = none) (hg2 : Gl X "set") (hm2 : X.mg "set" = none) (ha : XE X a σ B (DD X.K (.list (ns.map .int)))) (hl : ns.length ≤ 4000)
    (na : starEach [a] X.env = (false, eval a X.env) :: starEach [] X.env := by rfl) : XI X (.Call (.Name "len" pp) [.Call (.Name "set" p2) [a] [] q] [] pos) σ B ((firstMet (fun i => ns.getD i 0) ns.length).length : Int) := fun H s Q k pins st I => by
  refine Call_ (ld_blt I hg hm boot_len ?_)
  refine callWith_builtin1 (args_cons ?_ rfl) rfl rfl
  refine Call_ (ld_blt I hg2 hm2 boot_set ?_)
  refine callWith_type1 (args_cons (thn (ha H s (fun v H1 => ∃ B1, Gr B H B1 H1 ∧ Dq X.K B1 v (.list (ns.map .int))) (fun v B1 H1 g p1 => ⟨B1, g, p1⟩) pins st I) fun v s1 ⟨x, H1, I1, r1, B1, g1, q1⟩ => args_nil ?_) na) na rfl
  obtain ⟨l, rfl, h1⟩ := ints_at q1
  cases r1
  obtain ⟨its, r, pl, hz⟩ := I1.list (.of (g1.bh _ _ h1))
  have hlen : its.toArray.size = ns.length := by rw [List.size_toArray, ← r.length, List.length_map]
  refine call_set_list (I1.ok.hd hc) pl.isList (by simpa using intsAre_vals r) (by rw [hlen]; unfold scanBound; omega) fun h' tk hS hk => ?_
  refine args_nil ?_
  rw [hlen] at hS
  obtain ⟨ob, es, ep, t, ho, hex, hd, _, _, _, hf, hn⟩ := hS
  have I2 : L2.Inv X pins σ H1 { s1 with heap := h', toks := tk } := I1.kept fun b ob e => hk b ob (Heap.lt_size e) e
  have hlm : (firstMet (fun i => ns.getD i 0) ns.length).length ≤ ns.length := firstMet_length_le _ _
  exact call_len_set ho hex hd hf (by rw [hn]; omega) ⟨.int _, H1, I2.tok _, ⟨_, by rw [hn]⟩, k _ B1 H1 g1 (.int _)⟩
end
end TW
/-! TwH: enumerate of a tuple; in; extend; xs[i] = e; slices; isinstance; several targets; own new lists. -/
namespace TW
open PySem PySem.Spec PyProof.Rows L2 RZ
/-! ### enumerate(t), t a tuple -/
set_option maxHeartbeats 4000000 in
theorem meets_enumerate_newT {v : Value} {o : Obj} {H : Heap → Prop} (B : Begins v o H) :
    Meets (Builtin.«enumerate.__new__» ⟨[.type "enumerate", v], []⟩) (fun _ R s => H s.heap ∧
      R (.ok (.ret (.ref (s.heap.push o).objs.size))) { s with heap := (s.heap.push o).push { cls := .type "enumerate", data := .fields #[.none, .bool false, .ref s.heap.objs.size, rawInt 0, .none, .none] } }) :=
  .of_wp fun prog w A R s h => by
    obtain ⟨hp, g, d, tk, os⟩ := s; obtain ⟨h1, h⟩ := h
    have hsub := sub_enumerate
    have q1 : ∀ {A' : Around} {E : Value → Shared → Prop} {Q : Value → Shared → Prop}, Q (.ref hp.objs.size) ⟨hp.push o, g, d, tk, os⟩ → wpAny (model prog w) A' (pyIter v) Q E ⟨hp, g, d, tk, os⟩ :=
      fun q => B.iter prog w _ _ ⟨hp, g, d, tk, os⟩ _ h1 q
    wp_walk using q1
    refine wpAny_stack_any fun st => wpAny_pure ?_
    split
    · rename_i c _ _ _ _ _
      cases (c == Value.type "enumerate")
      · wp_walk using q1
        exact ⟨_, rfl, h⟩
      · wp_walk using q1
        exact ⟨_, rfl, h⟩
    · wp_walk using q1
      exact ⟨_, rfl, h⟩
section
variable {prog : Program} {w : World} {A : Around} {E : Value → Shared → Prop} {s : Shared}
theorem enum_begins1 {v : Value} {o : Obj} {H : Heap → Prop} {Q : Value → Shared → Prop} (B : Begins v o H) (h1 : H s.heap)
    (h : ∀ h', IsEnum h' (s.heap.objs.size + 1) s.heap.objs.size 0 .none → h'.get? s.heap.objs.size = some o → h'.objs.size = s.heap.objs.size + 2 →
      (∀ b o, s.heap.get? b = some o → h'.get? b = some o) → Q (.ref (s.heap.objs.size + 1)) { s with heap := h' }) :
    wpAny (model prog w) A (call (.type "enumerate") [v]) Q E s := by
  refine callType_new F.called_enumerate (by decide) (F.typeCall_enumerate_1 _) (F.newCall_enumerate_1 _) (fun obj => F.args_object_init_2 obj _) F.entry_enumerate_new
    (meets_enumerate_newT B) ⟨h1, ?_⟩
  have hz : (s.heap.push o).objs.size = s.heap.objs.size + 1 := Heap.size_push ..
  show _ ∧ _
  rw [hz]
  have he : IsEnum ((s.heap.push o).push { cls := .type "enumerate", data := .fields #[.none, .bool false, .ref s.heap.objs.size, rawInt 0, .none, .none] }) (s.heap.objs.size + 1) s.heap.objs.size 0 .none := by
    have := Heap.get?_push_size (s.heap.push o) (o := { cls := .type "enumerate", data := .fields #[.none, .bool false, .ref s.heap.objs.size, rawInt 0, .none, .none] }) rfl
    rw [hz] at this; exact this
  refine ⟨⟨_, he, rfl⟩, h _ he (Heap.get?_push_of_some _ (Heap.get?_push_size _ B.free)) (by rw [Heap.size_push, hz]) fun b o x => Heap.get?_push_of_some _ (Heap.get?_push_of_some _ x)⟩
end
/-- the tuple at a, the items in new pairs -/
def IteT (K : PySem.W.Frag) (a : Addr) : It :=
  ⟨fun i H => ∃ (xs : List V) (x : V), SqT K H a xs ∧ xs[i]? = some x, fun i H v H' => ∃ T x, v = .ref T ∧ H T = none ∧ H' = upd H T (.tup [.int (i : Nat), x]) ∧ ∀ xs, SqT K H a xs → xs[i]? = some x, fun i H => ∃ xs : List V, SqT K H a xs ∧ xs.length = i⟩
theorem apart_te {h : Heap} {e it a : Addr} {i : Int} {old : Value} {us : Array Value} (he : IsEnum h e it i old) (ht : h.IsTuple a us) : e ≠ a := fun z => by
  subst z
  obtain ⟨o, h1, h2, _⟩ := ht
  unfold IsEnum at he
  rw [h1] at he
  have e := Option.some.inj he
  rw [e] at h2
  exact absurd h2 (by simp)
theorem apart_ti {h : Heap} {it a : Addr} {i : Nat} {us : Array Value} (hi : h.IsTupleIter it a i) (ht : h.IsTuple a us) : a ≠ it := fun z => by
  subst z
  obtain ⟨o, h1, h2, _⟩ := ht
  obtain ⟨o', k1, k2, _⟩ := hi
  rw [h1] at k1
  have e := Option.some.inj k1
  rw [← e, h2] at k2
  exact absurd k2 (by simp)
theorem turn_enumT {P : Program} {w : World} {K : PySem.W.Frag} {elts : List Expr} {kk : Nat} {tpos : Pos} (a e it : Addr) :
    Turn P w K (.Tuple elts kk tpos) (IteT K a) [e, it] e (fun i h => (∃ old, IsEnum h e it ((i : Nat) : Int) old) ∧ h.IsTupleIter it a i ∧ e ≠ it) where
  mem := by simp
  obj := fun i h st b hb => by
    obtain ⟨⟨old, he⟩, ⟨o, ho, hc, hd⟩, _⟩ := st
    have e' : b = e ∨ b = it := by simpa using hb
    rcases e' with z | z
    · rw [z]; exact ⟨_, he, fun v q => nomatch q⟩
    · rw [z]; exact ⟨o, ho, fun v q => by rw [hd] at q; cases q⟩
  keep := fun i h h' st k => let ⟨⟨old, he⟩, hi, hne⟩ := st; ⟨⟨old, k e (by simp) _ he⟩, hi.at fun o q => k it (by simp) o q, hne⟩
  item := by
    intro X hP hw hK hc i pins s σ H E I hf st hg
    subst hP hw hK
    obtain ⟨⟨old, he⟩, hit, hne⟩ := st
    obtain ⟨xs, x, hq, hx⟩ := hg
    obtain ⟨its, rv, p, hz⟩ := I.tuple hq
    obtain ⟨u, hu, ru⟩ := rv.get hx
    have hel : e < s.heap.objs.size := Heap.lt_size he
    have hil : it < s.heap.objs.size := by obtain ⟨_, q, _⟩ := hit; exact Heap.lt_size q
    have ht : s.heap.IsTuple a its.toArray := p
    have ui : i < its.toArray.size := by
      rw [List.size_toArray]
      exact (List.getElem?_eq_some_iff.mp hu).1
    refine wpAny_pyNext_enum_itemC (Draws.tuple (A := X.A.in1) (show X.A.in1.handled = none from I.ok.hd hc) it a (apart_ti hit ht) its.toArray) he ⟨hit, ht⟩ ui hne (by simpa using And.intro hne (apart_te he ht)) fun x' h' tk hP' ho hit' hT hsz hk => ?_
    obtain rfl : x' = u := by
      have z : its.toArray[i]? = some u := by simpa using hu
      rw [z] at hP'
      exact (Option.some.inj hP').symm
    refine ⟨_, rfl, wpAny_letOwnedTupleGo_enum (s := { s with heap := h', toks := tk + 1 }) ho fun h'' he' sb => ?_⟩
    have hT2 : h''.get? s.heap.objs.size = some { cls := .type "tuple", data := .seq #[.int i tk, x'] } := (sb.2 _ (Nat.ne_of_gt hel)).trans hT
    have new : ObjOk X.prog X.w (upd H s.heap.objs.size (.tup [.int (i : Nat), x])) h'' s.heap.objs.size (.tup [.int (i : Nat), x]) :=
      ⟨by show 2 ≤ sizeLine; decide, [.int i tk, x'], .cons ⟨_, rfl⟩ (.cons ru .nil), ⟨_, hT2, rfl, _, rfl⟩⟩
    have I1 : L2.Inv X pins σ (upd H s.heap.objs.size (.tup [.int (i : Nat), x])) { s with heap := h'', toks := tk + 1 } :=
      I.turnedNew (ch := [e, it]) (fun b ob hb q => (sb.2 b (fun z => hb (by simp [z]))).trans (hk b ob (fun z => hb (by simp [z])) (fun z => hb (by simp [z])) q)) hf (Nat.le_refl _) new
    refine ⟨.ref s.heap.objs.size, _, I1, rfl, ⟨_, x, rfl, I.hok.fresh (Nat.le_refl _), rfl, fun ys hy => ?_⟩, ⟨⟨x', ?_⟩, hit'.1.at fun o q => (sb.2 it (Ne.symm hne)).trans q, hne⟩, fun b hb => ?_⟩
    · rw [I.tuple_inj hy hq]; exact hx
    · have e1 : ((i + 1 : Nat) : Int) = (i : Int) + 1 := by omega
      rw [e1]; exact he'
    · have hb' : b < s.heap.objs.size := by
        have e' : b = e ∨ b = it := by simpa using hb
        rcases e' with z | z
        · rw [z]; exact hel
        · rw [z]; exact hil
      rw [upd_ne (Nat.ne_of_lt hb')]
      exact (hf b hb).1
  done := by
    intro X hP hw hK hc i pins s σ H E I hf st hg
    subst hP hw hK
    obtain ⟨⟨old, he⟩, hit, hne⟩ := st
    obtain ⟨xs, hq, hx⟩ := hg
    obtain ⟨its, rv, p, hz⟩ := I.tuple hq
    obtain ⟨f0, f1, f2, f3, f4, f5⟩ := hf it (by simp)
    have ht : s.heap.IsTuple a its.toArray := p
    have hl := rv.length
    refine wpAny_pyNext_enum_endD (Draws.tuple (A := X.A.in1) (show X.A.in1.handled = none from I.ok.hd hc) it a (apart_ti hit ht) its.toArray) he ?_ fun h' eb => ⟨rfl, I.turned (t' := s.toks) (fun b o hb q => eb b o hb q) f0 f1 f3 f4 f5⟩
    rw [show its.toArray.size = i by rw [List.size_toArray, ← hl, hx]]
    exact ⟨hit, ht⟩
  self := fun A i s Q E st h => let ⟨⟨_, he⟩, _⟩ := st; wpAny_pyIter_enum he h
/-- tuple in, enumerate out -/
def iEnumT (K : PySem.W.Frag) (ta : TA) : TI := fun σ H R => ta σ H fun vs H1 => ∃ a xs, vs = [.ref a] ∧ SqT K H1 a xs ∧ R (IteT K a) H1
theorem pi_enumT {X : Cx} {e : Expr} {ta : TA} {p pos tpos : Pos} {elts : List Expr} {kk : Nat} (hg : Gl X "enumerate") (hm : X.mg "enumerate" = none) (ha : PA X [e] ta) (hs : starEach [e] X.env = [(false, eval e X.env)] := by rfl) :
    PI X (.Tuple elts kk tpos) (.Call (.Name "enumerate" p) [e] [] pos) (iEnumT X.K ta) := by
  refine ⟨fun pins s σ H R I h => ?_⟩
  refine Call_ (ld_blt I hg hm boot_enumerate (PyProof.Rows.callWith_type1 (thn (ha.run pos pins s σ H _ I h) fun us s1 ⟨vs, H1, I1, r1, q1⟩ => ?_) hs rfl))
  obtain ⟨a, xs, ex, hq, q⟩ := q1
  subst ex
  cases r1 with
  | cons r rr =>
    cases rr
    cases r
    obtain ⟨its, rv, p', hz⟩ := I1.tuple hq
    have ht : s1.heap.IsTuple a its.toArray := p'
    refine enum_begins1 (begins_tuple a its.toArray) ht fun h' he hit hsz hk => wpAny_pyIter_enum he ?_
    have I2 : L2.Inv X pins σ H1 { s1 with heap := h' } := I1.kept (t' := s1.toks) hk
    refine ⟨s1.heap.objs.size + 1, [s1.heap.objs.size + 1, s1.heap.objs.size], _, _, H1, rfl, I2, turn_enumT a (s1.heap.objs.size + 1) s1.heap.objs.size, ⟨⟨.none, he⟩, ⟨_, hit, rfl, rfl⟩, Nat.succ_ne_self _⟩, fun b hb => ?_, q⟩
    have e' : b = s1.heap.objs.size + 1 ∨ b = s1.heap.objs.size := by simpa using hb
    have hle : s1.heap.objs.size ≤ b := by
      rcases e' with z | z
      · rw [z]; exact Nat.le_add_right _ _
      · rw [z]; exact Nat.le_refl _
    exact I1.fpOk hle (I1.hok.fresh hle)
section
variable {X : Cx} {tg iter e e2 a b i o : Expr} {σ : L2.St} {B C H : Hp} {es ds fs : List PyData} {d d1 d2 : PyData} {pos pos' pp tpos : Pos} {elts : List Expr} {kk : Nat} {D : Ends} {P P1 : Hp → V → Prop}
theorem xi_enumT (hg : Gl X "enumerate") (hm : X.mg "enumerate" = none) (h : XE X e σ B (DD X.K (.tuple ds))) (hs1 : starEach [e] X.env = (false, eval e X.env) :: starEach [] X.env := by rfl) (hs : starEach [e] X.env = [(false, eval e X.env)] := by rfl) :
    XI_ X (.Tuple elts kk tpos) (.Call (.Name "enumerate" pp) [e] [] pos) σ B (enD ds) := fun H s R k => by
  refine wi_of (pi_enumT hg hm (pa_cons peW pa_nil hs1) hs) (h H s _ fun v B1 H1 g1 p1 => ?_)
  obtain ⟨l, xs, rfl, h1, r1⟩ := Dq.tup_v p1
  refine ⟨l, xs, rfl, Same.seqT g1.bh h1, k _ B1 H1 g1 ⟨fun i H2 s2 hi => ?_, fun H2 s2 => ⟨xs, Same.seqT s2 h1, by rw [r1.length, enD_len]⟩, fun i H2 x H3 s2 hi y => ?_⟩⟩
  · have hi' : i < xs.length := by rw [r1.length]; rw [enD_len] at hi; exact hi
    exact ⟨xs, xs[i], Same.seqT s2 h1, by simp [hi']⟩
  · obtain ⟨T, z, rfl, hT, rfl, y⟩ := y
    obtain ⟨d, e1, e2⟩ := r1.getV (y xs (Same.seqT s2 h1))
    refine ⟨_, _, enD_at e1, .new s2 hT, .tup (.of upd_same) (.cons (.int _) (.one (Dq.up (same_new (s2.free hT)) _ _ e2)))⟩
/-! ### in, not in; isinstance -/
theorem flat_ints : ∀ ns : List Int, (ns.map V.int).all flatV = true
  | [] => rfl
  | _ :: t => by
    rw [List.map_cons, List.all_cons, flat_ints t]
    rfl
theorem in_ints (i : Int) : ∀ ns : List Int, inV (.int i) (ns.map V.int) = decide (i ∈ ns)
  | [] => rfl
  | n :: t => by
    have ih := in_ints i t
    unfold inV at ih ⊢
    rw [List.map_cons, List.any_cons, ih]
    show (n == i || _) = _
    by_cases e : n = i
    · subst e
      simp
    · have e2 : ¬ i = n := fun z => e z.symm
      simp [e, e2]
theorem c_in {i : Int} {ns : List Int} : CmpOk X .In (.int i) (.list (ns.map .int)) (decide (i ∈ ns)) := ⟨_, op_in_seq, fun C H v u s pv pu Q q => by
  obtain ⟨l, rfl, h1⟩ := ints_at pu
  obtain rfl := pv.int_v
  exact ⟨l, _, rfl, .inl (.of (s _ _ h1)), rfl, flat_ints ns, by rw [in_ints]; exact q⟩⟩
theorem c_nin {i : Int} {ns : List Int} : CmpOk X .NotIn (.int i) (.list (ns.map .int)) (!decide (i ∈ ns)) := ⟨_, op_notIn_seq, fun C H v u s pv pu Q q => by
  obtain ⟨l, rfl, h1⟩ := ints_at pu
  obtain rfl := pv.int_v
  exact ⟨l, _, rfl, .inl (.of (s _ _ h1)), rfl, flat_ints ns, by rw [in_ints]; exact q⟩⟩
theorem x_ty {n : String} {x : Str} (hg : Gl X x) (hm : X.mg x = none) (hv : bootBuiltins x = some (.type n)) (hn : x ≠ "__name__" := by decide) (hd : (x == ("__debug__" : Str)) = false := by decide) : XE X (.Name x pos) σ B (Is (.ty n)) := fun H s Q k =>
  we_of (pe_bltn (v := .ty n) hg hm hv (Eq.refl _) hn hd) (k _ B H (.rfl s) rfl)
def IsL (vs0 : List V) : Hp → List V → Prop := fun _ vs => vs = vs0
instance {vs0 : List V} : MonoL (IsL vs0) := ⟨fun _ h => h⟩
/-- isinstance(an int, T) -/
theorem x_isiI {i : Int} {n : String} {x : Str} {q : Pos} {ans : Bool} (hg : Gl X "isinstance") (hm : X.mg "isinstance" = none) (hg2 : Gl X x) (hm2 : X.mg x = none) (hv : bootBuiltins x = some (.type n)) (hk : PySem.W.kitOne X.K (.type "int") (.type n) = some ans) (ha : XI X a σ B i)
    (hn : x ≠ "__name__" := by decide) (hd : (x == ("__debug__" : Str)) = false := by decide)
    (hs1 : starEach [a, .Name x q] X.env = (false, eval a X.env) :: starEach [.Name x q] X.env := by rfl) (hs2 : starEach [.Name x q] X.env = (false, eval (.Name x q) X.env) :: starEach [] X.env := by rfl) : XB X (.Call (.Name "isinstance" pp) [a, .Name x q] [] pos) σ B ans :=
  x_callB (P0 := IsL [.int i, .ty n]) call_isi hg hm (by decide +kernel) (xa_cons (P0 := DD X.K (.int i)) (PL := IsL [.ty n]) (h := ha) (hr := xa_cons (P0 := Is (.ty n)) (PL := IsL []) (x_ty hg2 hm2 hv hn hd) (xa_nil rfl) (fun C v vs _ h1 h2 => by
      obtain rfl : v = .ty n := h1
      obtain rfl : vs = [] := h2
      exact rfl) hs2) (fun C v vs _ h1 h2 => by
      obtain rfl := Dq.int_v h1
      obtain rfl : vs = [.ty n] := h2
      exact rfl) hs1) (he := hs1) (hpl := by rw [hs2]; rfl) fun C H vs _ s pv Q k => by
    obtain rfl : vs = [.int i, .ty n] := pv
    exact ⟨_, _, _, _, ans, rfl, .ty n, .base (.int i), hk, k _ C H (.rfl s) (.bl _)⟩
/-! ### slices of lists -/
def cutD (ds : List PyData) (lo hi : Option Int) : List PyData := (ds.drop (HT.sIx ds.length 0 lo)).take (HT.sIx ds.length ds.length hi - HT.sIx ds.length 0 lo)
theorem cut_up {K : PySem.W.Frag} {xs : List V} {l u : Option Int} (r : DqAll K B xs ds) : DqAll K B (cutV xs l u) (cutD ds l u) := by
  unfold cutV cutD
  rw [r.length]
  exact (r.drop _).take _
/-- an end of a slice -/
def XO (X : Cx) (e : Option Expr) (σ : L2.St) (B : Hp) (i : Option Int) : Prop := match e, i with
  | none, none => True
  | some e, some i => XI X e σ B i
  | _, _ => False
def WO (X : Cx) (e : Option Expr) : L2.TO := fun σ H Q => ∀ (pins : List (Addr × Obj)) (s : Shared), L2.Inv X pins σ H s → wpAny (model X.prog X.w) X.A (evalPart e X.env) (fun v s' => ∃ l H', L2.Inv X pins σ H' s' ∧ IsPart v l ∧ Q l H') X.xe s
theorem poW {e : Option Expr} : PO X e (WO X e) := ⟨fun pins s _ _ _ I h => h pins s I⟩
theorem xo {lo : Option Expr} {i : Option Int} (h : XO X lo σ B i) (H : Hp) (s : Same B H) (Q : Option Int → Hp → Prop) (k : ∀ B' H', Gr B H B' H' → Q i H') : WO X lo σ H Q := by
  cases lo with
  | none =>
    cases i with
    | none => exact fun pins st I => po_none.run pins st σ H Q I (k B H (.rfl s))
    | some j => exact absurd h id
  | some e =>
    cases i with
    | none => exact absurd h id
    | some j => exact fun pins st I => (po_some peW).run pins st σ H Q I (h H s _ fun v B' H' g pv => ⟨j, Dq.int_v pv, k B' H' g⟩)
theorem XO.up {lo : Option Expr} {i : Option Int} (h : XO X lo σ B i) (s : Same B C) : XO X lo σ C i := by
  cases lo with
  | none => cases i <;> exact h
  | some e =>
    cases i with
    | none => exact h
    | some j => exact XE.up h s
theorem x_sl {lo hi : Option Expr} {l u : Option Int} {p2 : Pos} (ha : XE X a σ B (DD X.K (.list ds))) (hl : XO X lo σ B l) (hu : XO X hi σ B u) : XE X (.Subscript a (.Slice lo hi none p2) pos) σ B (DD X.K (.list (cutD ds l u))) := fun H s Q k => by
  refine we_of (pe_slice sl_list peW poW poW) ?_
  refine ha H s _ fun v B1 H1 g1 p1 => ?_
  refine xo (hl.up g1.bb) H1 g1.bh _ fun B2 H2 g2 => ?_
  refine xo (hu.up (g1.bb.trans g2.bb)) H2 g2.bh _ fun B3 H3 g3 => ?_
  obtain ⟨p, xs, rfl, h1, r1⟩ := Dq.lst_v p1
  have g := (g1.trans g2).trans g3
  refine ⟨p, xs, rfl, .of (g3.hh _ _ (g2.hh _ _ (g1.bh _ _ h1))), fun q hq => k _ _ _ (g.trans (.new g3.bh hq)) ?_⟩
  refine .lst upd_same ?_
  have r3 := DqAll.up ((g2.bb.trans g3.bb).trans (same_new (o := HO.lst (cutV xs l u)) (g3.bh.free hq))) _ _ r1
  exact cut_up r3
/-! ### rows on own lists -/
/-- xs.extend(e) as a row: xs at l, an own list -/
theorem ws_ext {l : Addr} {xs : List V} {apos epos : Pos} (ho : ∀ C, Same B C → XE X o σ C (Is (.ref l))) (he : XE X e σ B (DD X.K (.list ds))) (s : Same B H) (hl : H l = some (.lst xs)) (hz : xs.length + ds.length ≤ sizeLine) (k : ∀ vs B' H', Gr B H B' H' → DqAll X.K B' vs ds → H' l = some (.lst xs) → D.nx σ (upd H' l (.lst (xs ++ vs))))
    (hpe : PE X (.Call (.Attribute o "extend" apos) [e] [] pos) (tBM X.K "list" rExtend (WE X o) (tCons (WE X e) tNil)) := by exact pe_bm PySem.F.plainAttrs_list PySem.F.slot_list_extend PySem.F.type_list_extend mt_extend peW (pa_cons peW pa_nil))
    (hs : swapsWith (.Call (.Attribute o "extend" apos) [e] [] pos) none epos.line X.env = pure false := by rfl) : WS X (.Expr (.Call (.Attribute o "extend" apos) [e] [] pos) epos) D σ H := by
  refine ws_of (ps_expr hpe hs) ?_
  refine ho B (.refl _) H s _ fun v B1 H1 g1 p1 => ?_
  obtain rfl : v = .ref l := p1
  refine ⟨.inl ⟨rfl, xs, .of (g1.hh _ _ hl)⟩, ?_⟩
  refine he.up g1.bb H1 g1.bh _ fun u B2 H2 g2 p2 => ?_
  obtain ⟨m, ys, rfl, h2, r2⟩ := Dq.lst_v p2
  exact ⟨l, m, xs, ys, rfl, rfl, g2.hh _ _ (g1.hh _ _ hl), g2.bh _ _ h2, by rw [r2.length]; exact hz, k ys B2 H2 (g1.trans g2) r2 (g2.hh _ _ (g1.hh _ _ hl))⟩
/-- xs[i] = e: xs at l, an own list -/
theorem ws_put {l : Addr} {xs : List V} {n : Int} {j : Nat} {spos : Pos} [Mono P] (he : XE X e σ B P) (ho : ∀ C, Same B C → XE X o σ C (Is (.ref l))) (hi : XI X i σ B n) (s : Same B H) (hl : H l = some (.lst xs)) (hj : ixN xs.length n = some j) (k : ∀ v B' H', Gr B H B' H' → P B' v → H' l = some (.lst xs) → D.nx σ (upd H' l (.lst (xs.set j v))))
    (hs : swapsWithSole [.Subscript o i spos] e pos.line X.env = pure false := by rfl) (hw : swappedStores [.Subscript o i spos] e X.env = pure none := by rfl)
    (ha : ∀ v, assign (.Subscript o i spos) X.env v = (do
      let ov ← holding [v] (eval o X.env)
      let iv ← holding [v, ov] (eval i X.env)
      standAt spos
      holding [v, ov, iv] (setItem ov iv v)
      release [v, ov, iv] []) := by intro _; rfl) : WS X (.Assign [.Subscript o i spos] e pos) D σ H := by
  refine ws_of (ps_asg peW (pg_sub peW peW set_list ha) hs hw) ?_
  refine he H s _ fun v B1 H1 g1 p1 => ?_
  refine ho B1 g1.bb H1 g1.bh _ fun u B2 H2 g2 p2 => ?_
  obtain rfl : u = .ref l := p2
  refine hi.up (g1.bb.trans g2.bb) H2 g2.bh _ fun w B3 H3 g3 p3 => ?_
  have g := (g1.trans g2).trans g3
  exact ⟨l, xs, n, j, rfl, Dq.int_v p3, g.hh _ _ hl, hj, k v B3 H3 g (Mono.up (g2.bb.trans g3.bb) p1) (g.hh _ _ hl)⟩
/-- name = [es], the list an own one from now on -/
theorem ws_newL {x : Str} (j : Nat) {es : List Expr} (h : XD X es σ B ds) (s : Same B H) (k : ∀ p vs B' H', Gr B H B' H' → DqAll X.K B' vs ds → H' p = none → D.nx (σ.set j (some (.ref p))) (upd H' p (.lst vs))) (hl : ds.length ≤ sizeLine := by exact Nat.le_of_ble_eq_true rfl) (hN : X.N.Nodup := by exact FnScope.nd (by assumption)) (hi : X.N[j]? = some x := by rfl) (hx : Loc X.env.scope x := by first | exact Or.inl rfl | exact Or.inr rfl)
    (hs : swapsWith (.List es pp) (some (.Name x pos')) pos.line X.env = pure false := by rfl) (hf : X.fn x = true ∨ X.env.scope.names.lookup x = some .local := by first | exact .inl rfl | exact .inr rfl | assumption) : WS X (.Assign [.Name x pos'] (.List es pp) pos) D σ H :=
  ws_of (ps_set hN hi hx (pe_lst paW) hs hf) (h H s _ fun vs B1 H1 g1 p1 => ⟨by rw [DqAll.length p1]; exact hl, fun p hp => k p vs B1 H1 g1 p1 hp⟩)
/-! ### several targets at once -/
/-- a, b = a list -/
theorem xg_lst {ts : List Expr} {k : Nat} {l : Addr} {vs : List V} {σ2 : L2.St} (hc : X.calm = true) (hq : B l = some (.lst vs)) (h : XGs X ts vs σ B σ2) (hn : (assignEach ts X.env).length = vs.length := by rfl) (hst : (assignEach ts X.env).findIdx? (·.1) = none := by rfl) : XG X (.Tuple ts k pos) (.ref l) σ B σ2 := fun H s Q k => by
  have p : PGs X ts (fun ws σ' H' R => ∀ (pins : List (Addr × Obj)) (s : Shared) (us : List Value), L2.Inv X pins σ' H' s → Vals ws us → wpAny (model X.prog X.w) X.A (assignInOrder ((assignEach ts X.env).map (·.2)) us) (fun _ s' => ∃ σ' H', L2.Inv X pins σ' H' s' ∧ R σ' H') X.xe s) := ⟨fun pins s _ _ _ us _ I r h => h pins s us I r⟩
  exact wg_of (pg_unl hc p hn hst) ⟨l, vs, rfl, .of (s _ _ hq), rfl, h H s Q k⟩
/-- x, y = a, b -/
theorem ws_par {x y : Str} {px py pt pt2 : Pos} {kt k2 : Nat} {P2 : Hp → List V → Prop} (j l : Nat) (ha : XA X [a, b] σ B P2) (s : Same B H) (k : ∀ vs B' H', Gr B H B' H' → P2 B' vs → ∃ v w, vs = [v, w] ∧ D.nx ((σ.set j (some v)).set l (some w)) H') (hc : X.calm = true) (hN : X.N.Nodup)
    (hw : swappedStores [.Tuple [.Name x px, .Name y py] kt pt] (.Tuple [a, b] k2 pt2) X.env = pure (some [x, y])) (hj : X.N[j]? = some x := by rfl) (hl : X.N[l]? = some y := by rfl) (hjl : j ≠ l := by decide) (hx : X.env.scope.names.lookup x = some .local := by rfl) (hy : X.env.scope.names.lookup y = some .local := by rfl)
    (hs : swapsWithSole [.Tuple [.Name x px, .Name y py] kt pt] (.Tuple [a, b] k2 pt2) pos.line X.env = pure false := by rfl) : WS X (.Assign [.Tuple [.Name x px, .Name y py] kt pt] (.Tuple [a, b] k2 pt2) pos) D σ H :=
  ws_of (ps_par hc hN hj hl hjl hx hy paW hw hs) (ha H s _ k)
theorem ws_par3 {x y z : Str} {c : Expr} {px py pz pt pt2 : Pos} {kt k2 : Nat} {P2 : Hp → List V → Prop} (j l m : Nat) (ha : XA X [a, b, c] σ B P2) (s : Same B H) (k : ∀ vs B' H', Gr B H B' H' → P2 B' vs → ∃ u v w, vs = [u, v, w] ∧ D.nx (((σ.set j (some u)).set l (some v)).set m (some w)) H') (hc : X.calm = true) (hN : X.N.Nodup)
    (hw : swappedStores [.Tuple [.Name x px, .Name y py, .Name z pz] kt pt] (.Tuple [a, b, c] k2 pt2) X.env = pure (some [x, y, z])) (hj : X.N[j]? = some x := by rfl) (hl : X.N[l]? = some y := by rfl) (hm : X.N[m]? = some z := by rfl) (hjl : j ≠ l := by decide) (hjm : j ≠ m := by decide) (hlm : l ≠ m := by decide)
    (hx : X.env.scope.names.lookup x = some .local := by rfl) (hy : X.env.scope.names.lookup y = some .local := by rfl) (hz : X.env.scope.names.lookup z = some .local := by rfl)
    (hs : swapsWithSole [.Tuple [.Name x px, .Name y py, .Name z pz] kt pt] (.Tuple [a, b, c] k2 pt2) pos.line X.env = pure false := by rfl) : WS X (.Assign [.Tuple [.Name x px, .Name y py, .Name z pz] kt pt] (.Tuple [a, b, c] k2 pt2) pos) D σ H :=
  ws_of (ps_par3 hc hN hj hl hm hjl hjm hlm hx hy hz paW hw hs) (ha H s _ k)
end
end TW
/-! TwM: the program's data and functions, in plain Lean. -/
namespace TW
open PySem PyProof.Rows
structure Ship where
  ready : Int
  length : Int
  draught : Int
  stay : Int
  tugs : Int
  sea : Int
  lie : Int
  deriving Inhabited, DecidableEq
structure Harb where
  depths : List Int
  berths : List Int
  tugs : Int
  pilots : Int
  last : Int
/-- a state: its hour, its places -/
abbrev Sta := Int × List (Int × Int)
abbrev Mv := List (Int × Int)
abbrev Way := Mv × Int × Sta
abbrev Lat := List (Option Int)
abbrev Trip := Int × Int × Int
def ePair (p : Int × Int) : PyData := .tuple [.int p.1, .int p.2]
def eTrip (p : Int × Int × Int) : PyData := .tuple [.int p.1, .int p.2.1, .int p.2.2]
def eInts (l : List Int) : PyData := .list (l.map .int)
def eShip (s : Ship) : PyData := .tuple [.int s.ready, .int s.length, .int s.draught, .int s.stay, .int s.tugs, .int s.sea, .int s.lie]
def eShips (l : List Ship) : PyData := .list (l.map eShip)
def eHarb (h : Harb) : PyData := .tuple [eInts h.depths, eInts h.berths, .int h.tugs, .int h.pilots, .int h.last]
def ePls (l : List (Int × Int)) : PyData := .tuple (l.map ePair)
def eSta (s : Sta) : PyData := .tuple [.int s.1, ePls s.2]
def eWay (w : Way) : PyData := .tuple [ePls w.1, .int w.2.1, eSta w.2.2]
def eWays (l : List Way) : PyData := .list (l.map eWay)
def eOpt : Option Int → PyData
  | none => .none
  | some i => .int i
def eProm (l : List (Option Int)) : PyData := .list (l.map eOpt)
def eTrips (l : List Trip) : PyData := .list (l.map eTrip)
def eMvs (l : List Mv) : PyData := .list (l.map ePls)
def ePairs (l : List (Int × Int)) : PyData := .list (l.map ePair)
/-- keys -/
def kPair (p : Int × Int) : NestedKey := .tup [.num p.1, .num p.2]
def kSta (s : Sta) : NestedKey := .tup [.num s.1, .tup (s.2.map kPair)]
/-! ### the functions -/
abbrev SEA : Int × Int := (-1, 0)
abbrev GONE : Int × Int := (-2, 0)
def depthAt (h : Harb) (t : Int) : Int := h.depths.getD (t % (h.depths.length : Int)).toNat 0
def isEnd (ps : List (Int × Int)) : Bool := ps.all fun p => decide (p = GONE)
def waitsOf (ships : List Ship) (plan : List Trip) : List (Int × Int) := List.zipWith (fun s p => (p.1 - s.ready, p.2.2 - p.1 - s.stay - 1)) ships plan
def costOf (ships : List Ship) (plan : List Trip) : Int := (List.zipWith (fun (s : Ship) (w : Int × Int) => w.1 * s.sea + w.2 * s.lie) ships (waitsOf ships plan)).sum
def beginOf (ships : List Ship) : Sta := (0, ships.map fun _ => SEA)
def berthsFor (h : Harb) (s : Ship) (ps : List (Int × Int)) : List Int :=
  h.berths.zipIdx.filterMap fun p => if s.length ≤ p.1 ∧ ¬ (p.2 : Int) ∈ ps.map (·.1) then some (p.2 : Int) else none
def isKept (lat : Lat) (n : Nat) (t : Int) : Bool := match lat.getD n none with
  | none => true
  | some x => decide (t ≤ x)
def plAt (st : Sta) (n : Nat) : Int × Int := st.2.getD n (0, 0)
def rowOf (h : Harb) (st : Sta) (lat : Lat) (n : Nat) (s : Ship) : List Int :=
  if s.draught ≤ depthAt h st.1 then
    if plAt st n = SEA ∧ s.ready ≤ st.1 then berthsFor h s st.2
    else if 0 ≤ (plAt st n).1 ∧ (plAt st n).2 = 0 ∧ isKept lat n st.1 = true then [-1] else []
  else []
def choicesOf (h : Harb) (ships : List Ship) (st : Sta) (lat : Lat) : List (List Int) := ships.zipIdx.map fun p => rowOf h st lat p.2 p.1
def shipAt (ships : List Ship) (i : Int) : Ship := ships.getD i.toNat default
def setLen (bs : List Int) : Nat := (firstMet (fun i => bs.getD i 0) bs.length).length
def isLet (h : Harb) (ships : List Ship) (m : Mv) : Bool :=
  let bs := m.filterMap fun p => if 0 ≤ p.2 then some p.2 else none
  if setLen bs ≠ bs.length ∨ h.pilots < m.length then false else decide ((m.map fun p => (shipAt ships p.1).tugs).sum ≤ h.tugs)
def moreOf (h : Harb) (ships : List Ship) (n : Nat) (row : List Int) (found : List Mv) : List Mv :=
  found ++ (found.flatMap fun m => row.map fun b => m ++ [((n : Int), b)]).filter (isLet h ships)
def movesGo (h : Harb) (ships : List Ship) (l : List (List Int × Nat)) : List Mv := l.foldl (fun f p => moreOf h ships p.2 p.1 f) [[]]
def mvLe : Mv → Mv → Bool := PySem.W.dataLe false ePls
def movesIn (h : Harb) (ships : List Ship) (st : Sta) (lat : Lat) : List Mv :=
  if h.last < st.1 ∨ isEnd st.2 = true then [] else (movesGo h ships (choicesOf h ships st lat).zipIdx).mergeSort mvLe
def costIn (ships : List Ship) (st : Sta) (m : Mv) : Int :=
  (ships.zipIdx.map fun p => if (p.2 : Int) ∈ m.map (·.1) then 0 else if plAt st p.2 = SEA ∧ p.1.ready ≤ st.1 then p.1.sea else if 0 ≤ (plAt st p.2).1 ∧ (plAt st p.2).2 = 0 then p.1.lie else 0).sum
def tick (p : Int × Int) : Int × Int := (p.1, if 0 ≤ p.1 then (if p.2 - 1 > 0 then p.2 - 1 else 0) else p.2)
def landed (ships : List Ship) (p : Int × Int) : Int × Int := if p.2 = -1 then GONE else (p.2, (shipAt ships p.1).stay)
def afterMoves (ships : List Ship) (st : Sta) (m : Mv) : Sta := (st.1 + 1, m.foldl (fun ps p => ps.set p.1.toNat (landed ships p)) (st.2.map tick))
def waysIn (h : Harb) (ships : List Ship) (st : Sta) (lat : Lat) : List Way := (movesIn h ships st lat).map fun m => (m, costIn ships st m, afterMoves ships st m)
abbrev Found := List (Sta × List Way)
def addSta (l : List Sta) (s : Sta) : List Sta := if s ∈ l then l else l ++ [s]
def laterOf (h : Harb) (ships : List Ship) (lat : Lat) (layer : List Sta) : List Sta := (layer.flatMap fun s => (waysIn h ships s lat).map (·.2.2)).foldl addSta []
def grownGo (h : Harb) (ships : List Ship) (lat : Lat) : Nat → Found → List Sta → Found
  | 0, found, _ => found
  | k + 1, found, layer => grownGo h ships lat k (found ++ layer.map fun s => (s, waysIn h ships s lat)) (laterOf h ships lat layer)
def fuelOf (h : Harb) (st : Sta) : Nat := (h.last + 2 - st.1).toNat
def grownOf (h : Harb) (ships : List Ship) (st : Sta) (lat : Lat) : Found := grownGo h ships lat (fuelOf h st) [] [st]
def leastOf (l : List (Option Int)) : Option Int := (l.filterMap id).min?
def addedOf (c : Int) : Option Int → Option Int
  | none => none
  | some r => some (c + r)
def restF (h : Harb) (ships : List Ship) (lat : Lat) : Nat → Sta → Option Int
  | 0, _ => none
  | k + 1, s => if isEnd s.2 then some 0 else leastOf ((waysIn h ships s lat).map fun w => addedOf w.2.1 (restF h ships lat k w.2.2))
def restOf (h : Harb) (ships : List Ship) (st : Sta) (lat : Lat) : Option Int := restF h ships lat (fuelOf h st) st
def waysOn (h : Harb) (ships : List Ship) (st : Sta) (lat : Lat) : List Way :=
  if restOf h ships st lat = none then [] else (waysIn h ships st lat).filter fun w => decide (addedOf w.2.1 (restOf h ships w.2.2 lat) = restOf h ships st lat)
def bestMoves (h : Harb) (ships : List Ship) (st : Sta) (lat : Lat) : List Mv := (waysOn h ships st lat).map (·.1)
def hasWay (h : Harb) (ships : List Ship) (st : Sta) (lat : Lat) : Bool := (restOf h ships st lat).isSome
/-- the way on: its rows (hour, ship, berth) -/
def wayF (h : Harb) (ships : List Ship) (lat : Lat) : Nat → Sta → List Trip
  | 0, _ => []
  | k + 1, s => if isEnd s.2 then [] else
    let m := (bestMoves h ships s lat).headD []
    (m.map fun p => (s.1, p.1, p.2)) ++ wayF h ships lat k (afterMoves ships s m)
def wayOn (h : Harb) (ships : List Ship) (st : Sta) (lat : Lat) : List Trip := wayF h ships lat (fuelOf h st) st
def keptAlone (pr : Lat) (names : List Int) : Lat := pr.zipIdx.map fun p => if (p.2 : Int) ∈ names then p.1 else none
def rowsFor (tr : List Trip) (n : Nat) : List (Int × Int) := tr.filterMap fun p => if p.2.1 = (n : Int) then some (p.1, p.2.2) else none
def planOf (ships : List Ship) (tr : List Trip) : List Trip := (List.range ships.length).map fun n =>
  let r := rowsFor tr n
  ((r.getD 0 (0, 0)).1, (r.getD 0 (0, 0)).2, (r.getD 1 (0, 0)).1)
def othersOf (pr : Lat) (ship : Int) : List Int := pr.zipIdx.filterMap fun p => if p.1.isSome = true ∧ ¬ (p.2 : Int) = ship then some (p.2 : Int) else none
def clashOf (h : Harb) (ships : List Ship) (st : Sta) (pr : Lat) (ship : Int) : Option (List Int) :=
  ((List.range ((othersOf pr ship).length + 1)).find? fun n => !hasWay h ships st (keptAlone pr ((othersOf pr ship).take n ++ [ship]))).map fun n => (othersOf pr ship).take n
def eClash : Option (List Int) → PyData
  | none => .none
  | some l => eInts l
/-- the console's go -/
def movesAt (way : List Trip) (t : Int) : Mv := way.filterMap fun p => if p.1 = t then some (p.2.1, p.2.2) else none
def stepGo (ships : List Ship) (way : List Trip) (s : Sta) : Sta := if isEnd s.2 then (s.1 + 1, s.2) else afterMoves ships s (movesAt way s.1)
def goIter (ships : List Ship) (way : List Trip) (s : Sta) : Nat → Sta
  | 0 => s
  | k + 1 => stepGo ships way (goIter ships way s k)
def freshOf (way : List Trip) (hour : Int) : List Trip := way.filter fun p => decide (p.1 < hour)
end TW
/-! TwT: the text by places; what its top has left; how a def is shown. -/
namespace TW
open PySem PySem.Spec PyProof.Rows L2
def top (i : Nat) : Stmt := PySem.Challenge.pw_tidewaits_k71_whole_hours_go_on.main.body.getD i (.Pass ⟨0, 0, 0, 0⟩)
/-- the def st of the text stands under the name x -/
structure FunX (K : PySem.W.Frag) (mg : Str → Option Value) (x qual : Str) (st : Stmt) : Prop where
  ex : ∃ f fd, Fun K qual qual st f fd ∧ mg x = some (.ref f)
/-- the constant d stands under the name x -/
def ConX (K : PySem.W.Frag) (mg : Str → Option Value) (x : Str) (d : PyData) : Prop := ∃ v u, mg x = some u ∧ RelV v u ∧ ∀ B, Dq K B v d
structure Txt (K : PySem.W.Frag) (mg : Str → Option Value) : Prop where
  b_len : mg "len" = none
  b_all : mg "all" = none
  b_any : mg "any" = none
  b_sum : mg "sum" = none
  b_min : mg "min" = none
  b_max : mg "max" = none
  b_int : mg "int" = none
  b_isinstance : mg "isinstance" = none
  b_bool : mg "bool" = none
  b_tuple : mg "tuple" = none
  b_list : mg "list" = none
  b_set : mg "set" = none
  b_sorted : mg "sorted" = none
  b_reversed : mg "reversed" = none
  b_enumerate : mg "enumerate" = none
  b_zip : mg "zip" = none
  b_range : mg "range" = none
  b_repr : mg "repr" = none
  f13 : FunX K mg "is_within" "is_within" (top 13)
  f14 : FunX K mg "check_row" "check_row" (top 14)
  f15 : FunX K mg "check_harbour" "check_harbour" (top 15)
  f16 : FunX K mg "check_ships" "check_ships" (top 16)
  f17 : FunX K mg "depth_at" "depth_at" (top 17)
  f18 : FunX K mg "waits" "waits" (top 18)
  f19 : FunX K mg "cost_of" "cost_of" (top 19)
  f23 : FunX K mg "beginning" "beginning" (top 23)
  f24 : FunX K mg "is_end_best" "is_end" (top 24)
  f26 : FunX K mg "berths_for" "berths_for" (top 26)
  f27 : FunX K mg "choices" "choices" (top 27)
  f28 : FunX K mg "is_kept" "is_kept" (top 28)
  f29 : FunX K mg "is_let" "is_let" (top 29)
  f30 : FunX K mg "moves_in" "moves_in" (top 30)
  f31 : FunX K mg "cost_in" "cost_in" (top 31)
  f32 : FunX K mg "after_moves" "after_moves" (top 32)
  f33 : FunX K mg "ways_in" "ways_in" (top 33)
  f34 : FunX K mg "grown" "grown" (top 34)
  f35 : FunX K mg "least" "least" (top 35)
  f36 : FunX K mg "added" "added" (top 36)
  f37 : FunX K mg "rests_in" "rests_in" (top 37)
  f38 : FunX K mg "rest_of" "rest_of" (top 38)
  f39 : FunX K mg "ways_on" "ways_on" (top 39)
  f40 : FunX K mg "best_moves" "best_moves" (top 40)
  f45 : FunX K mg "is_end_console" "is_end" (top 45)
  f47 : FunX K mg "has_way" "has_way" (top 47)
  f48 : FunX K mg "kept_alone" "kept_alone" (top 48)
  f49 : FunX K mg "clash_of" "clash_of" (top 49)
  f50 : FunX K mg "way_on" "way_on" (top 50)
  f54 : FunX K mg "_law_draws" "_law_draws" (top 54)
  f55 : FunX K mg "_law_small" "_law_small" (top 55)
  f56 : FunX K mg "_law_world" "_law_world" (top 56)
  f57 : FunX K mg "_law_promised" "_law_promised" (top 57)
  f58 : FunX K mg "_law_moves" "_law_moves" (top 58)
  f59 : FunX K mg "_law_tuples" "_law_tuples" (top 59)
  f60 : FunX K mg "_law_beside" "_law_beside" (top 60)
  f61 : FunX K mg "_law_has_plan" "_law_has_plan" (top 61)
  c_SEA_best : ConX K mg "SEA_best" (ePair SEA)
  c_GONE_best : ConX K mg "GONE_best" (ePair GONE)
  c_SEA_console : ConX K mg "SEA_console" (ePair SEA)
  c_GONE_console : ConX K mg "GONE_console" (ePair GONE)
  c_MOST_SHIPS : ConX K mg "MOST_SHIPS" (.int 3)
  c_BOUNDS : ConX K mg "BOUNDS" (.tuple ([(0, 20), (1, 9), (0, 40), (1, 4), (0, 3), (0, 9), (0, 9)].map ePair))
  g_comb : mg "combinations" = some (.type "itertools.combinations")
  i_int : PySem.W.kitOne K (.type "int") (.type "int") = some true
  i_bool : PySem.W.kitOne K (.type "int") (.type "bool") = some false
section
variable {P : Program} {w : World} {K : PySem.W.Frag} {mg : Str → Option Value} {base : Heap}
theorem x_con {X : Cx} {x : Str} {d : PyData} {σ : L2.St} {B : Hp} {pos : Pos} (c : ConX X.K X.mg x d) (hg : Gl X x) (hd : (x == ("__debug__" : Str)) = false := by decide) : XE X (.Name x pos) σ B (DD X.K d) := by
  obtain ⟨v, u, hm, r, h⟩ := c
  exact x_glob hg hm r (h B) hd
theorem dn_of {x qual : Str} {st : Stmt} {N ps : List Str} {k : Nat} {α : Type} {A : α → Hp → List V → Prop} {R : α → Hp → V → Prop} (D : FunX K mg x qual st) (S : FnScope N ps (defScope st))
    (hb : ∀ (kV doc pm : Value) (an : Option Addr) (cdv ct : Value) (us : List Value), us.length = ps.length → bindArgs (PySem.W.fnOf qual qual (defArgs st) (defBody st) (defScope st) .none kV doc pm an cdv ct) ⟨us, []⟩ = pure (ps.zip us))
    (len : ∀ y B vs, A y B vs → vs.length = ps.length)
    (body : ∀ (f : Addr) (cdv : Value) (A0 : Around) (outer : List Env) (s : Shared) (H : Hp) (vs : List V) (E : XK) (y : α) (B : Hp) (Q : VK), Room k (A0.deeper (envOfC qual (defScope st) s.heap.objs.size f cdv)) → Same B H → A y B vs → (∀ v B' H', Gr B H B' H' → R y B' v → Q v H') →
      WSs (cxOf CX0 P w K mg base N qual (defScope st) f cdv A0 outer s H E).nox (defBody st) { nx := fun _ H' => Q .non H', rt := Q } (start N vs) H) : Dn P w K mg base CX0 (k + 1) x ps (SpP A R) := by
  obtain ⟨f, fd, F, hm⟩ := D.ex
  refine ⟨f, fd, F.ok S (fun vs H Q E h => ?_) (fun cdv A0 outer s H vs Q E hr h => ?_), hm, F.kp, F.binds hb⟩
  · obtain ⟨y, B, _, ha, _⟩ := h
    exact len y B vs ha
  · obtain ⟨y, B, sb, ha, q⟩ := h
    exact ⟨_, pssW, body f cdv A0 outer s H vs E y B Q hr sb ha q⟩
theorem Dn.mono {x : Str} {ps : List Str} {sp : Sp} {CX : CXT} {j k : Nat} (h : Dn P w K mg base CX j x ps sp) (e : j ≤ k) : Dn P w K mg base CX k x ps sp := by
  obtain ⟨f, fd, F, h1, h2, h3⟩ := h.ex
  exact ⟨f, fd, F.mono e, h1, h2, h3⟩
end
end TW
/-! TwS: the scopes of the text's defs and of their comprehensions (printed by gen_sc.py). -/
namespace TW
open PySem PySem.Spec PyProof.Rows L2
def blkOkB (N : List Str) (sc scope : Scope) (own : List (Str × Nat)) : Bool :=
  decide (scope.kind = .function) && scope.names.all (fun y => decide (scope.names.lookup y.1 = some y.2)) && own.all (fun p => decide (N[p.2]? = some p.1)) &&
  scope.names.all (fun y => !decide (y.2 = .free) || decide (sc.names.lookup y.1 = some .cell) || decide (sc.names.lookup y.1 = some .free)) &&
  scope.names.all (fun y => !(decide (y.2 = .local) || decide (y.2 = .cell)) || decide (y.1 ∈ own.map (·.1)) || decide (¬ y.1 ∈ N))
theorem blkOk_of {N : List Str} {sc scope : Scope} {own : List (Str × Nat)} (h : blkOkB N sc scope own = true) : BlkOk N sc scope own := by
  unfold blkOkB at h
  simp only [Bool.and_eq_true, decide_eq_true_eq, List.all_eq_true, Bool.or_eq_true, Bool.not_eq_true', decide_eq_false_iff_not] at h
  obtain ⟨⟨⟨⟨h1, h2⟩, h3⟩, h4⟩, h5⟩ := h
  refine ⟨h1, h2, h3, fun y hy e => ?_, fun y hy e => ?_⟩
  · rcases h4 y hy with (z | z) | z
    · exact absurd e z
    · exact .inl z
    · exact .inr z
  · rcases h5 y hy with (z | z) | z
    · exact absurd e (by simpa using z)
    · exact .inl z
    · exact .inr z
def clsBody (i : Nat) : List Stmt := match top i with
  | .ClassDef _ _ _ body _ _ _ _ _ _ _ => body
  | _ => []
def meth (i j : Nat) : Stmt := (clsBody i).getD j (.Pass ⟨0, 0, 0, 0⟩)
-- is_within(value, low, high)  [(0, 'value'), (1, 'low'), (2, 'high')]  own [('value', 'local'), ('low', 'local'), ('high', 'local'), ('isinstance', 'globalImplicit'), ('int', 'globalImplicit'), ('bool', 'globalImplicit')]
abbrev N13 : List Str := ["value", "low", "high"]
theorem sc13 : FnScope N13 ["value", "low", "high"] (defScope (top 13)) := ⟨rfl, rfl, rfl, by decide +kernel, rfl, by decide +kernel, by decide +kernel⟩
-- check_row(row, most, low, high)  [(0, 'row'), (1, 'most'), (2, 'low'), (3, 'high'), (4, 'number')]  own [('row', 'local'), ('most', 'local'), ('low', 'cell'), ('high', 'cell'), ('len', 'globalImplicit'), ('BadSize', 'globalImplicit'), ('all', 'globalImplicit'), ('BadNumber', 'globalImplicit')]
abbrev N14 : List Str := ["row", "most", "low", "high", "number"]
theorem sc14 : FnScope N14 ["row", "most", "low", "high"] (defScope (top 14)) := ⟨rfl, rfl, rfl, by decide +kernel, rfl, by decide +kernel, by decide +kernel⟩
abbrev o14_0 : List (Str × Nat) := [("number", 4)]
theorem bk14_0 : BlkOk N14 (defScope (top 14)) ⟨.function, [(".0", .local), ("number", .local), ("is_within", .globalImplicit), ("high", .free), ("low", .free)], false, false, []⟩ o14_0 := blkOk_of (by decide +kernel)
-- check_harbour(harbour)  [(0, 'harbour'), (1, 'depths'), (2, 'berths'), (3, 'tugs'), (4, 'pilots'), (5, 'last')]  own [('harbour', 'local'), ('depths', 'local'), ('berths', 'local'), ('tugs', 'local'), ('pilots', 'local'), ('last', 'local'), ('check_row', 'globalImplicit'), ('is_within', 'globalImplicit'), ('BadNumber', 'globalImplicit')]
abbrev N15 : List Str := ["harbour", "depths", "berths", "tugs", "pilots", "last"]
theorem sc15 : FnScope N15 ["harbour"] (defScope (top 15)) := ⟨rfl, rfl, rfl, by decide +kernel, rfl, by decide +kernel, by decide +kernel⟩
-- check_ships(ships)  [(0, 'ships'), (1, 'name'), (2, 'ship'), (3, 'number'), (4, 'low'), (5, 'high')]  own [('ships', 'local'), ('name', 'local'), ('ship', 'local'), ('number', 'local'), ('low', 'local'), ('high', 'local'), ('len', 'globalImplicit'), ('BadSize', 'globalImplicit'), ('enumerate', 'globalImplicit'), ('zip', 'globalImplicit'), ('BOUNDS', 'globalImplicit'), ('is_within', 'globalImplicit'), ('BadShip', 'globalImplicit')]
abbrev N16 : List Str := ["ships", "name", "ship", "number", "low", "high"]
theorem sc16 : FnScope N16 ["ships"] (defScope (top 16)) := ⟨rfl, rfl, rfl, by decide +kernel, rfl, by decide +kernel, by decide +kernel⟩
-- depth_at(harbour, hour)  [(0, 'harbour'), (1, 'hour')]  own [('harbour', 'local'), ('hour', 'local'), ('len', 'globalImplicit')]
abbrev N17 : List Str := ["harbour", "hour"]
theorem sc17 : FnScope N17 ["harbour", "hour"] (defScope (top 17)) := ⟨rfl, rfl, rfl, by decide +kernel, rfl, by decide +kernel, by decide +kernel⟩
-- waits(ships, plan)  [(0, 'ships'), (1, 'plan'), (2, 'ship'), (3, 'first'), (4, 'berth'), (5, 'out')]  own [('ships', 'local'), ('plan', 'local'), ('zip', 'globalImplicit')]
abbrev N18 : List Str := ["ships", "plan", "ship", "first", "berth", "out"]
theorem sc18 : FnScope N18 ["ships", "plan"] (defScope (top 18)) := ⟨rfl, rfl, rfl, by decide +kernel, rfl, by decide +kernel, by decide +kernel⟩
abbrev o18_0 : List (Str × Nat) := [("ship", 2), ("first", 3), ("berth", 4), ("out", 5)]
theorem bk18_0 : BlkOk N18 (defScope (top 18)) ⟨.function, [(".0", .local), ("ship", .local), ("first", .local), ("berth", .local), ("out", .local)], false, false, []⟩ o18_0 := blkOk_of (by decide +kernel)
-- cost_of(ships, plan)  [(0, 'ships'), (1, 'plan'), (2, 'ship'), (3, 'sea'), (4, 'lying')]  own [('ships', 'local'), ('plan', 'local'), ('sum', 'globalImplicit'), ('zip', 'globalImplicit'), ('waits', 'globalImplicit')]
abbrev N19 : List Str := ["ships", "plan", "ship", "sea", "lying"]
theorem sc19 : FnScope N19 ["ships", "plan"] (defScope (top 19)) := ⟨rfl, rfl, rfl, by decide +kernel, rfl, by decide +kernel, by decide +kernel⟩
abbrev o19_0 : List (Str × Nat) := [("ship", 2), ("sea", 3), ("lying", 4)]
theorem bk19_0 : BlkOk N19 (defScope (top 19)) ⟨.function, [(".0", .local), ("ship", .local), ("sea", .local), ("lying", .local)], false, false, []⟩ o19_0 := blkOk_of (by decide +kernel)
-- beginning(ships)  [(0, 'ships'), (1, 'ship')]  own [('ships', 'local'), ('tuple', 'globalImplicit')]
abbrev N23 : List Str := ["ships", "ship"]
theorem sc23 : FnScope N23 ["ships"] (defScope (top 23)) := ⟨rfl, rfl, rfl, by decide +kernel, rfl, by decide +kernel, by decide +kernel⟩
abbrev o23_0 : List (Str × Nat) := [("ship", 1)]
theorem bk23_0 : BlkOk N23 (defScope (top 23)) ⟨.function, [(".0", .local), ("ship", .local), ("SEA_best", .globalImplicit)], false, false, []⟩ o23_0 := blkOk_of (by decide +kernel)
-- is_end(state)  [(0, 'state'), (1, 'place')]  own [('state', 'local'), ('all', 'globalImplicit')]
abbrev N24 : List Str := ["state", "place"]
theorem sc24 : FnScope N24 ["state"] (defScope (top 24)) := ⟨rfl, rfl, rfl, by decide +kernel, rfl, by decide +kernel, by decide +kernel⟩
abbrev o24_0 : List (Str × Nat) := [("place", 1)]
theorem bk24_0 : BlkOk N24 (defScope (top 24)) ⟨.function, [(".0", .local), ("place", .local), ("GONE_best", .globalImplicit)], false, false, []⟩ o24_0 := blkOk_of (by decide +kernel)
-- berths_for(harbour, ship, places)  [(0, 'harbour'), (1, 'ship'), (2, 'places'), (3, 'held'), (4, 'place'), (5, 'name'), (6, 'length')]  own [('harbour', 'local'), ('ship', 'cell'), ('places', 'local'), ('held', 'cell'), ('enumerate', 'globalImplicit')]
abbrev N26 : List Str := ["harbour", "ship", "places", "held", "place", "name", "length"]
theorem sc26 : FnScope N26 ["harbour", "ship", "places"] (defScope (top 26)) := ⟨rfl, rfl, rfl, by decide +kernel, rfl, by decide +kernel, by decide +kernel⟩
abbrev o26_0 : List (Str × Nat) := [("place", 4)]
theorem bk26_0 : BlkOk N26 (defScope (top 26)) ⟨.function, [(".0", .local), ("place", .local)], false, false, []⟩ o26_0 := blkOk_of (by decide +kernel)
abbrev o26_1 : List (Str × Nat) := [("name", 5), ("length", 6)]
theorem bk26_1 : BlkOk N26 (defScope (top 26)) ⟨.function, [(".0", .local), ("name", .local), ("length", .local), ("held", .free), ("ship", .free)], false, false, []⟩ o26_1 := blkOk_of (by decide +kernel)
-- choices(harbour, ships, state, latest)  [(0, 'harbour'), (1, 'ships'), (2, 'state'), (3, 'latest'), (4, 'hour'), (5, 'places'), (6, 'found'), (7, 'name'), (8, 'ship'), (9, 'row')]  own [('harbour', 'local'), ('ships', 'local'), ('state', 'local'), ('latest', 'local'), ('hour', 'local'), ('places', 'local'), ('found', 'local'), ('name', 'local'), ('ship', 'local'), ('row', 'local'), ('enumerate', 'globalImplicit'), ('depth_at', 'globalImplicit'), ('SEA_best', 'globalImplicit'), ('berths_for', 'globalImplicit'), ('is_kept', 'globalImplicit')]
abbrev N27 : List Str := ["harbour", "ships", "state", "latest", "hour", "places", "found", "name", "ship", "row"]
theorem sc27 : FnScope N27 ["harbour", "ships", "state", "latest"] (defScope (top 27)) := ⟨rfl, rfl, rfl, by decide +kernel, rfl, by decide +kernel, by decide +kernel⟩
-- is_kept(latest, name, hour)  [(0, 'latest'), (1, 'name'), (2, 'hour')]  own [('latest', 'local'), ('name', 'local'), ('hour', 'local')]
abbrev N28 : List Str := ["latest", "name", "hour"]
theorem sc28 : FnScope N28 ["latest", "name", "hour"] (defScope (top 28)) := ⟨rfl, rfl, rfl, by decide +kernel, rfl, by decide +kernel, by decide +kernel⟩
-- is_let(harbour, ships, moves)  [(0, 'harbour'), (1, 'ships'), (2, 'moves'), (3, 'berths'), (4, 'name'), (5, 'berth')]  own [('harbour', 'local'), ('ships', 'cell'), ('moves', 'local'), ('berths', 'local'), ('len', 'globalImplicit'), ('set', 'globalImplicit'), ('sum', 'globalImplicit')]
abbrev N29 : List Str := ["harbour", "ships", "moves", "berths", "name", "berth"]
theorem sc29 : FnScope N29 ["harbour", "ships", "moves"] (defScope (top 29)) := ⟨rfl, rfl, rfl, by decide +kernel, rfl, by decide +kernel, by decide +kernel⟩
abbrev o29_0 : List (Str × Nat) := [("name", 4), ("berth", 5)]
theorem bk29_0 : BlkOk N29 (defScope (top 29)) ⟨.function, [(".0", .local), ("name", .local), ("berth", .local)], false, false, []⟩ o29_0 := blkOk_of (by decide +kernel)
abbrev o29_1 : List (Str × Nat) := [("name", 4), ("berth", 5)]
theorem bk29_1 : BlkOk N29 (defScope (top 29)) ⟨.function, [(".0", .local), ("name", .local), ("berth", .local), ("ships", .free)], false, false, []⟩ o29_1 := blkOk_of (by decide +kernel)
-- moves_in(harbour, ships, state, latest)  [(0, 'harbour'), (1, 'ships'), (2, 'state'), (3, 'latest'), (4, 'found'), (5, 'name'), (6, 'row'), (7, 'more'), (8, 'moves'), (9, 'berth')]  own [('harbour', 'cell'), ('ships', 'cell'), ('state', 'local'), ('latest', 'local'), ('found', 'local'), ('name', 'cell'), ('row', 'local'), ('more', 'local'), ('moves', 'cell'), ('is_end_best', 'globalImplicit'), ('enumerate', 'globalImplicit'), ('choices', 'globalImplicit'), ('sorted', 'globalImplicit')]
abbrev N30 : List Str := ["harbour", "ships", "state", "latest", "found", "name", "row", "more", "moves", "berth"]
theorem sc30 : FnScope N30 ["harbour", "ships", "state", "latest"] (defScope (top 30)) := ⟨rfl, rfl, rfl, by decide +kernel, rfl, by decide +kernel, by decide +kernel⟩
abbrev o30_0 : List (Str × Nat) := [("berth", 9)]
theorem bk30_0 : BlkOk N30 (defScope (top 30)) ⟨.function, [(".0", .local), ("berth", .local), ("moves", .free), ("name", .free)], false, false, []⟩ o30_0 := blkOk_of (by decide +kernel)
abbrev o30_1 : List (Str × Nat) := [("moves", 8)]
theorem bk30_1 : BlkOk N30 (defScope (top 30)) ⟨.function, [(".0", .local), ("moves", .local), ("is_let", .globalImplicit), ("harbour", .free), ("ships", .free)], false, false, []⟩ o30_1 := blkOk_of (by decide +kernel)
-- cost_in(ships, state, moves)  [(0, 'ships'), (1, 'state'), (2, 'moves'), (3, 'hour'), (4, 'places'), (5, 'name'), (6, 'moving'), (7, 'cost'), (8, 'ship'), (9, 'berth')]  own [('ships', 'local'), ('state', 'local'), ('moves', 'local'), ('hour', 'local'), ('places', 'local'), ('name', 'local'), ('moving', 'local'), ('cost', 'local'), ('ship', 'local'), ('enumerate', 'globalImplicit'), ('SEA_best', 'globalImplicit')]
abbrev N31 : List Str := ["ships", "state", "moves", "hour", "places", "name", "moving", "cost", "ship", "berth"]
theorem sc31 : FnScope N31 ["ships", "state", "moves"] (defScope (top 31)) := ⟨rfl, rfl, rfl, by decide +kernel, rfl, by decide +kernel, by decide +kernel⟩
abbrev o31_0 : List (Str × Nat) := [("name", 5), ("berth", 9)]
theorem bk31_0 : BlkOk N31 (defScope (top 31)) ⟨.function, [(".0", .local), ("name", .local), ("berth", .local)], false, false, []⟩ o31_0 := blkOk_of (by decide +kernel)
-- after_moves(ships, state, moves)  [(0, 'ships'), (1, 'state'), (2, 'moves'), (3, 'hour'), (4, 'places'), (5, 'later'), (6, 'name'), (7, 'berth'), (8, 'left')]  own [('ships', 'local'), ('state', 'local'), ('moves', 'local'), ('hour', 'local'), ('places', 'local'), ('later', 'local'), ('name', 'local'), ('berth', 'local'), ('left', 'local'), ('enumerate', 'globalImplicit'), ('max', 'globalImplicit'), ('GONE_best', 'globalImplicit'), ('tuple', 'globalImplicit')]
abbrev N32 : List Str := ["ships", "state", "moves", "hour", "places", "later", "name", "berth", "left"]
theorem sc32 : FnScope N32 ["ships", "state", "moves"] (defScope (top 32)) := ⟨rfl, rfl, rfl, by decide +kernel, rfl, by decide +kernel, by decide +kernel⟩
-- ways_in(harbour, ships, state, latest)  [(0, 'harbour'), (1, 'ships'), (2, 'state'), (3, 'latest'), (4, 'found'), (5, 'moves')]  own [('harbour', 'local'), ('ships', 'local'), ('state', 'local'), ('latest', 'local'), ('found', 'local'), ('moves', 'local'), ('moves_in', 'globalImplicit'), ('cost_in', 'globalImplicit'), ('after_moves', 'globalImplicit')]
abbrev N33 : List Str := ["harbour", "ships", "state", "latest", "found", "moves"]
theorem sc33 : FnScope N33 ["harbour", "ships", "state", "latest"] (defScope (top 33)) := ⟨rfl, rfl, rfl, by decide +kernel, rfl, by decide +kernel, by decide +kernel⟩
-- grown(harbour, ships, state, latest)  [(0, 'harbour'), (1, 'ships'), (2, 'state'), (3, 'latest'), (4, 'found'), (5, 'layer'), (6, 'later'), (7, 'here'), (8, 'moves'), (9, 'cost'), (10, 'behind')]  own [('harbour', 'local'), ('ships', 'local'), ('state', 'local'), ('latest', 'local'), ('found', 'local'), ('layer', 'local'), ('later', 'local'), ('here', 'local'), ('moves', 'local'), ('cost', 'local'), ('behind', 'local'), ('ways_in', 'globalImplicit'), ('list', 'globalImplicit')]
abbrev N34 : List Str := ["harbour", "ships", "state", "latest", "found", "layer", "later", "here", "moves", "cost", "behind"]
theorem sc34 : FnScope N34 ["harbour", "ships", "state", "latest"] (defScope (top 34)) := ⟨rfl, rfl, rfl, by decide +kernel, rfl, by decide +kernel, by decide +kernel⟩
-- least(numbers)  [(0, 'numbers'), (1, 'some'), (2, 'one')]  own [('numbers', 'local'), ('some', 'local'), ('min', 'globalImplicit')]
abbrev N35 : List Str := ["numbers", "some", "one"]
theorem sc35 : FnScope N35 ["numbers"] (defScope (top 35)) := ⟨rfl, rfl, rfl, by decide +kernel, rfl, by decide +kernel, by decide +kernel⟩
abbrev o35_0 : List (Str × Nat) := [("one", 2)]
theorem bk35_0 : BlkOk N35 (defScope (top 35)) ⟨.function, [(".0", .local), ("one", .local)], false, false, []⟩ o35_0 := blkOk_of (by decide +kernel)
-- added(cost, rest)  [(0, 'cost'), (1, 'rest')]  own [('cost', 'local'), ('rest', 'local')]
abbrev N36 : List Str := ["cost", "rest"]
theorem sc36 : FnScope N36 ["cost", "rest"] (defScope (top 36)) := ⟨rfl, rfl, rfl, by decide +kernel, rfl, by decide +kernel, by decide +kernel⟩
-- rests_in(found)  [(0, 'found'), (1, 'rests'), (2, 'state'), (3, 'moves'), (4, 'cost'), (5, 'behind')]  own [('found', 'local'), ('rests', 'cell'), ('state', 'local'), ('reversed', 'globalImplicit'), ('list', 'globalImplicit'), ('is_end_best', 'globalImplicit'), ('least', 'globalImplicit')]
abbrev N37 : List Str := ["found", "rests", "state", "moves", "cost", "behind"]
theorem sc37 : FnScope N37 ["found"] (defScope (top 37)) := ⟨rfl, rfl, rfl, by decide +kernel, rfl, by decide +kernel, by decide +kernel⟩
abbrev o37_0 : List (Str × Nat) := [("moves", 3), ("cost", 4), ("behind", 5)]
theorem bk37_0 : BlkOk N37 (defScope (top 37)) ⟨.function, [(".0", .local), ("moves", .local), ("cost", .local), ("behind", .local), ("added", .globalImplicit), ("rests", .free)], false, false, []⟩ o37_0 := blkOk_of (by decide +kernel)
-- rest_of(harbour, ships, state, latest)  [(0, 'harbour'), (1, 'ships'), (2, 'state'), (3, 'latest')]  own [('harbour', 'local'), ('ships', 'local'), ('state', 'local'), ('latest', 'local'), ('rests_in', 'globalImplicit'), ('grown', 'globalImplicit')]
abbrev N38 : List Str := ["harbour", "ships", "state", "latest"]
theorem sc38 : FnScope N38 ["harbour", "ships", "state", "latest"] (defScope (top 38)) := ⟨rfl, rfl, rfl, by decide +kernel, rfl, by decide +kernel, by decide +kernel⟩
-- ways_on(found, rests, state)  [(0, 'found'), (1, 'rests'), (2, 'state'), (3, 'way')]  own [('found', 'local'), ('rests', 'cell'), ('state', 'cell')]
abbrev N39 : List Str := ["found", "rests", "state", "way"]
theorem sc39 : FnScope N39 ["found", "rests", "state"] (defScope (top 39)) := ⟨rfl, rfl, rfl, by decide +kernel, rfl, by decide +kernel, by decide +kernel⟩
abbrev o39_0 : List (Str × Nat) := [("way", 3)]
theorem bk39_0 : BlkOk N39 (defScope (top 39)) ⟨.function, [(".0", .local), ("way", .local), ("added", .globalImplicit), ("rests", .free), ("state", .free)], false, false, []⟩ o39_0 := blkOk_of (by decide +kernel)
-- best_moves(harbour, ships, state, latest)  [(0, 'harbour'), (1, 'ships'), (2, 'state'), (3, 'latest'), (4, 'found'), (5, 'moves'), (6, 'cost'), (7, 'behind')]  own [('harbour', 'local'), ('ships', 'local'), ('state', 'local'), ('latest', 'local'), ('found', 'local'), ('grown', 'globalImplicit'), ('ways_on', 'globalImplicit'), ('rests_in', 'globalImplicit')]
abbrev N40 : List Str := ["harbour", "ships", "state", "latest", "found", "moves", "cost", "behind"]
theorem sc40 : FnScope N40 ["harbour", "ships", "state", "latest"] (defScope (top 40)) := ⟨rfl, rfl, rfl, by decide +kernel, rfl, by decide +kernel, by decide +kernel⟩
abbrev o40_0 : List (Str × Nat) := [("moves", 5), ("cost", 6), ("behind", 7)]
theorem bk40_0 : BlkOk N40 (defScope (top 40)) ⟨.function, [(".0", .local), ("moves", .local), ("cost", .local), ("behind", .local)], false, false, []⟩ o40_0 := blkOk_of (by decide +kernel)
-- is_end(here)  [(0, 'here'), (1, 'place')]  own [('here', 'local'), ('all', 'globalImplicit')]
abbrev N45 : List Str := ["here", "place"]
theorem sc45 : FnScope N45 ["here"] (defScope (top 45)) := ⟨rfl, rfl, rfl, by decide +kernel, rfl, by decide +kernel, by decide +kernel⟩
abbrev o45_0 : List (Str × Nat) := [("place", 1)]
theorem bk45_0 : BlkOk N45 (defScope (top 45)) ⟨.function, [(".0", .local), ("place", .local), ("GONE_console", .globalImplicit)], false, false, []⟩ o45_0 := blkOk_of (by decide +kernel)
-- has_way(harbour, ships, here, promises)  [(0, 'harbour'), (1, 'ships'), (2, 'here'), (3, 'promises')]  own [('harbour', 'local'), ('ships', 'local'), ('here', 'local'), ('promises', 'local'), ('rest_of', 'globalImplicit')]
abbrev N47 : List Str := ["harbour", "ships", "here", "promises"]
theorem sc47 : FnScope N47 ["harbour", "ships", "here", "promises"] (defScope (top 47)) := ⟨rfl, rfl, rfl, by decide +kernel, rfl, by decide +kernel, by decide +kernel⟩
-- kept_alone(promises, names)  [(0, 'promises'), (1, 'names'), (2, 'name'), (3, 'hour')]  own [('promises', 'local'), ('names', 'cell'), ('enumerate', 'globalImplicit')]
abbrev N48 : List Str := ["promises", "names", "name", "hour"]
theorem sc48 : FnScope N48 ["promises", "names"] (defScope (top 48)) := ⟨rfl, rfl, rfl, by decide +kernel, rfl, by decide +kernel, by decide +kernel⟩
abbrev o48_0 : List (Str × Nat) := [("name", 2), ("hour", 3)]
theorem bk48_0 : BlkOk N48 (defScope (top 48)) ⟨.function, [(".0", .local), ("name", .local), ("hour", .local), ("names", .free)], false, false, []⟩ o48_0 := blkOk_of (by decide +kernel)
-- clash_of(harbour, ships, here, promises, ship)  [(0, 'harbour'), (1, 'ships'), (2, 'here'), (3, 'promises'), (4, 'ship'), (5, 'others'), (6, 'many'), (7, 'names'), (8, 'name'), (9, 'hour')]  own [('harbour', 'local'), ('ships', 'local'), ('here', 'local'), ('promises', 'local'), ('ship', 'cell'), ('others', 'local'), ('many', 'local'), ('names', 'local'), ('enumerate', 'globalImplicit'), ('range', 'globalImplicit'), ('len', 'globalImplicit'), ('combinations', 'globalImplicit'), ('has_way', 'globalImplicit'), ('kept_alone', 'globalImplicit')]
abbrev N49 : List Str := ["harbour", "ships", "here", "promises", "ship", "others", "many", "names", "name", "hour"]
theorem sc49 : FnScope N49 ["harbour", "ships", "here", "promises", "ship"] (defScope (top 49)) := ⟨rfl, rfl, rfl, by decide +kernel, rfl, by decide +kernel, by decide +kernel⟩
abbrev o49_0 : List (Str × Nat) := [("name", 8), ("hour", 9)]
theorem bk49_0 : BlkOk N49 (defScope (top 49)) ⟨.function, [(".0", .local), ("name", .local), ("hour", .local), ("ship", .free)], false, false, []⟩ o49_0 := blkOk_of (by decide +kernel)
-- way_on(harbour, ships, here, promises)  [(0, 'harbour'), (1, 'ships'), (2, 'here'), (3, 'promises'), (4, 'found'), (5, 'moves'), (6, 'ship'), (7, 'berth')]  own [('harbour', 'local'), ('ships', 'local'), ('here', 'cell'), ('promises', 'local'), ('found', 'local'), ('moves', 'local'), ('is_end_console', 'globalImplicit'), ('best_moves', 'globalImplicit'), ('after_moves', 'globalImplicit')]
abbrev N50 : List Str := ["harbour", "ships", "here", "promises", "found", "moves", "ship", "berth"]
theorem sc50 : FnScope N50 ["harbour", "ships", "here", "promises"] (defScope (top 50)) := ⟨rfl, rfl, rfl, by decide +kernel, rfl, by decide +kernel, by decide +kernel⟩
abbrev o50_0 : List (Str × Nat) := [("ship", 6), ("berth", 7)]
theorem bk50_0 : BlkOk N50 (defScope (top 50)) ⟨.function, [(".0", .local), ("ship", .local), ("berth", .local), ("here", .free)], false, false, []⟩ o50_0 := blkOk_of (by decide +kernel)
-- __init__(self, harbour, ships, here, done, promises)  [(0, 'self'), (1, 'harbour'), (2, 'ships'), (3, 'here'), (4, 'done'), (5, 'promises')]  own [('self', 'local'), ('harbour', 'local'), ('ships', 'local'), ('here', 'local'), ('done', 'local'), ('promises', 'local'), ('has_way', 'globalImplicit'), ('NoWay', 'globalImplicit'), ('way_on', 'globalImplicit')]
abbrev N51_0 : List Str := ["self", "harbour", "ships", "here", "done", "promises"]
theorem sc51_0 : FnScope N51_0 ["self", "harbour", "ships", "here", "done", "promises"] (defScope (meth 51 0)) := ⟨rfl, rfl, rfl, by decide +kernel, rfl, by decide +kernel, by decide +kernel⟩
-- plan_of(self)  [(0, 'self'), (1, 'found'), (2, 'name'), (3, 'first'), (4, 'out'), (5, 'hour'), (6, 'ship'), (7, 'berth')]  own [('self', 'local'), ('found', 'local'), ('name', 'cell'), ('first', 'local'), ('out', 'local'), ('range', 'globalImplicit'), ('len', 'globalImplicit')]
abbrev N51_1 : List Str := ["self", "found", "name", "first", "out", "hour", "ship", "berth"]
theorem sc51_1 : FnScope N51_1 ["self"] (defScope (meth 51 1)) := ⟨rfl, rfl, rfl, by decide +kernel, rfl, by decide +kernel, by decide +kernel⟩
abbrev o51_1_0 : List (Str × Nat) := [("hour", 5), ("ship", 6), ("berth", 7)]
theorem bk51_1_0 : BlkOk N51_1 (defScope (meth 51 1)) ⟨.function, [(".0", .local), ("hour", .local), ("ship", .local), ("berth", .local), ("name", .free)], false, false, []⟩ o51_1_0 := blkOk_of (by decide +kernel)
-- cost_now(self)  [(0, 'self')]  own [('self', 'local'), ('cost_of', 'globalImplicit')]
abbrev N51_2 : List Str := ["self"]
theorem sc51_2 : FnScope N51_2 ["self"] (defScope (meth 51 2)) := ⟨rfl, rfl, rfl, by decide +kernel, rfl, by decide +kernel, by decide +kernel⟩
-- __init__(self, harbour, ships)  [(0, 'self'), (1, 'harbour'), (2, 'ships'), (3, 'depths'), (4, 'berths'), (5, 'rest'), (6, 'own'), (7, 'ship')]  own [('self', 'local'), ('harbour', 'local'), ('ships', 'local'), ('depths', 'local'), ('berths', 'local'), ('rest', 'local'), ('own', 'local'), ('check_harbour', 'globalImplicit'), ('check_ships', 'globalImplicit'), ('State', 'globalImplicit'), ('beginning', 'globalImplicit')]
abbrev N52_0 : List Str := ["self", "harbour", "ships", "depths", "berths", "rest", "own", "ship"]
theorem sc52_0 : FnScope N52_0 ["self", "harbour", "ships"] (defScope (meth 52 0)) := ⟨rfl, rfl, rfl, by decide +kernel, rfl, by decide +kernel, by decide +kernel⟩
abbrev o52_0_0 : List (Str × Nat) := [("ship", 7)]
theorem bk52_0_0 : BlkOk N52_0 (defScope (meth 52 0)) ⟨.function, [(".0", .local), ("ship", .local)], false, false, []⟩ o52_0_0 := blkOk_of (by decide +kernel)
-- _state(self)  [(0, 'self')]  own [('self', 'local')]
abbrev N52_1 : List Str := ["self"]
theorem sc52_1 : FnScope N52_1 ["self"] (defScope (meth 52 1)) := ⟨rfl, rfl, rfl, by decide +kernel, rfl, by decide +kernel, by decide +kernel⟩
-- _enter(self, state, entry)  [(0, 'self'), (1, 'state'), (2, 'entry')]  own [('self', 'local'), ('state', 'local'), ('entry', 'local')]
abbrev N52_2 : List Str := ["self", "state", "entry"]
theorem sc52_2 : FnScope N52_2 ["self", "state", "entry"] (defScope (meth 52 2)) := ⟨rfl, rfl, rfl, by decide +kernel, rfl, by decide +kernel, by decide +kernel⟩
-- _check_name(self, ship)  [(0, 'self'), (1, 'ship')]  own [('self', 'local'), ('ship', 'local'), ('is_within', 'globalImplicit'), ('len', 'globalImplicit'), ('BadShip', 'globalImplicit')]
abbrev N52_3 : List Str := ["self", "ship"]
theorem sc52_3 : FnScope N52_3 ["self", "ship"] (defScope (meth 52 3)) := ⟨rfl, rfl, rfl, by decide +kernel, rfl, by decide +kernel, by decide +kernel⟩
-- go(self, hour)  [(0, 'self'), (1, 'hour'), (2, 'state'), (3, 'here'), (4, 'moves'), (5, 'fresh'), (6, 'when'), (7, 'ship'), (8, 'berth'), (9, 'move')]  own [('self', 'local'), ('hour', 'cell'), ('state', 'local'), ('here', 'cell'), ('moves', 'local'), ('fresh', 'local'), ('is_within', 'globalImplicit'), ('BadHour', 'globalImplicit'), ('is_end_console', 'globalImplicit'), ('after_moves', 'globalImplicit'), ('tuple', 'globalImplicit'), ('State', 'globalImplicit')]
abbrev N52_4 : List Str := ["self", "hour", "state", "here", "moves", "fresh", "when", "ship", "berth", "move"]
theorem sc52_4 : FnScope N52_4 ["self", "hour"] (defScope (meth 52 4)) := ⟨rfl, rfl, rfl, by decide +kernel, rfl, by decide +kernel, by decide +kernel⟩
abbrev o52_4_0 : List (Str × Nat) := [("when", 6), ("ship", 7), ("berth", 8)]
theorem bk52_4_0 : BlkOk N52_4 (defScope (meth 52 4)) ⟨.function, [(".0", .local), ("when", .local), ("ship", .local), ("berth", .local), ("here", .free)], false, false, []⟩ o52_4_0 := blkOk_of (by decide +kernel)
abbrev o52_4_1 : List (Str × Nat) := [("move", 9)]
theorem bk52_4_1 : BlkOk N52_4 (defScope (meth 52 4)) ⟨.function, [(".0", .local), ("move", .local), ("hour", .free)], false, false, []⟩ o52_4_1 := blkOk_of (by decide +kernel)
-- ship(self, ship)  [(0, 'self'), (1, 'ship'), (2, 'state'), (3, 'name'), (4, 'here'), (5, 'later')]  own [('self', 'local'), ('ship', 'local'), ('state', 'local'), ('name', 'local'), ('here', 'local'), ('later', 'local'), ('len', 'globalImplicit'), ('MOST_SHIPS', 'globalImplicit'), ('BadSize', 'globalImplicit'), ('check_ships', 'globalImplicit'), ('BadHour', 'globalImplicit'), ('SEA_console', 'globalImplicit'), ('State', 'globalImplicit')]
abbrev N52_5 : List Str := ["self", "ship", "state", "name", "here", "later"]
theorem sc52_5 : FnScope N52_5 ["self", "ship"] (defScope (meth 52 5)) := ⟨rfl, rfl, rfl, by decide +kernel, rfl, by decide +kernel, by decide +kernel⟩
-- promise(self, ship, hour)  [(0, 'self'), (1, 'ship'), (2, 'hour'), (3, 'state'), (4, 'promises'), (5, 'clash'), (6, 'name'), (7, 'told')]  own [('self', 'local'), ('ship', 'cell'), ('hour', 'cell'), ('state', 'local'), ('promises', 'local'), ('clash', 'local'), ('is_within', 'globalImplicit'), ('BadHour', 'globalImplicit'), ('GONE_console', 'globalImplicit'), ('NotSo', 'globalImplicit'), ('enumerate', 'globalImplicit'), ('clash_of', 'globalImplicit'), ('Clash', 'globalImplicit'), ('State', 'globalImplicit')]
abbrev N52_6 : List Str := ["self", "ship", "hour", "state", "promises", "clash", "name", "told"]
theorem sc52_6 : FnScope N52_6 ["self", "ship", "hour"] (defScope (meth 52 6)) := ⟨rfl, rfl, rfl, by decide +kernel, rfl, by decide +kernel, by decide +kernel⟩
abbrev o52_6_0 : List (Str × Nat) := [("name", 6), ("told", 7)]
theorem bk52_6_0 : BlkOk N52_6 (defScope (meth 52 6)) ⟨.function, [(".0", .local), ("name", .local), ("told", .local), ("hour", .free), ("ship", .free)], false, false, []⟩ o52_6_0 := blkOk_of (by decide +kernel)
-- harbour(self)  [(0, 'self'), (1, 'depths'), (2, 'berths'), (3, 'rest')]  own [('self', 'local'), ('depths', 'local'), ('berths', 'local'), ('rest', 'local')]
abbrev N52_14 : List Str := ["self", "depths", "berths", "rest"]
theorem sc52_14 : FnScope N52_14 ["self"] (defScope (meth 52 14)) := ⟨rfl, rfl, rfl, by decide +kernel, rfl, by decide +kernel, by decide +kernel⟩
-- ships(self)  [(0, 'self')]  own [('self', 'local')]
abbrev N52_15 : List Str := ["self"]
theorem sc52_15 : FnScope N52_15 ["self"] (defScope (meth 52 15)) := ⟨rfl, rfl, rfl, by decide +kernel, rfl, by decide +kernel, by decide +kernel⟩
-- promises(self)  [(0, 'self')]  own [('self', 'local')]
abbrev N52_16 : List Str := ["self"]
theorem sc52_16 : FnScope N52_16 ["self"] (defScope (meth 52 16)) := ⟨rfl, rfl, rfl, by decide +kernel, rfl, by decide +kernel, by decide +kernel⟩
-- plan(self)  [(0, 'self')]  own [('self', 'local')]
abbrev N52_17 : List Str := ["self"]
theorem sc52_17 : FnScope N52_17 ["self"] (defScope (meth 52 17)) := ⟨rfl, rfl, rfl, by decide +kernel, rfl, by decide +kernel, by decide +kernel⟩
-- state(self)  [(0, 'self')]  own [('self', 'local')]
abbrev N52_18 : List Str := ["self"]
theorem sc52_18 : FnScope N52_18 ["self"] (defScope (meth 52 18)) := ⟨rfl, rfl, rfl, by decide +kernel, rfl, by decide +kernel, by decide +kernel⟩
-- cost(self)  [(0, 'self')]  own [('self', 'local')]
abbrev N52_19 : List Str := ["self"]
theorem sc52_19 : FnScope N52_19 ["self"] (defScope (meth 52 19)) := ⟨rfl, rfl, rfl, by decide +kernel, rfl, by decide +kernel, by decide +kernel⟩
-- now(self)  [(0, 'self')]  own [('self', 'local')]
abbrev N52_21 : List Str := ["self"]
theorem sc52_21 : FnScope N52_21 ["self"] (defScope (meth 52 21)) := ⟨rfl, rfl, rfl, by decide +kernel, rfl, by decide +kernel, by decide +kernel⟩
-- __len__(self)  [(0, 'self')]  own [('self', 'local'), ('len', 'globalImplicit')]
abbrev N52_24 : List Str := ["self"]
theorem sc52_24 : FnScope N52_24 ["self"] (defScope (meth 52 24)) := ⟨rfl, rfl, rfl, by decide +kernel, rfl, by decide +kernel, by decide +kernel⟩
-- _law_draws(_law_script, _law_count)  [(0, '_law_script'), (1, '_law_count'), (2, '_law_rests'), (3, '_law_draws_here'), (4, '_law_k'), (5, '_law_value'), (6, '_law_at'), (7, '_law_mixed'), (8, '_law_cell')]  own [('_law_script', 'local'), ('_law_count', 'local'), ('_law_rests', 'local'), ('_law_draws_here', 'local'), ('_law_k', 'local'), ('_law_value', 'local'), ('_law_at', 'local'), ('_law_mixed', 'local'), ('range', 'globalImplicit'), ('len', 'globalImplicit'), ('int', 'globalImplicit')]
abbrev N54 : List Str := ["_law_script", "_law_count", "_law_rests", "_law_draws_here", "_law_k", "_law_value", "_law_at", "_law_mixed", "_law_cell"]
theorem sc54 : FnScope N54 ["_law_script", "_law_count"] (defScope (top 54)) := ⟨rfl, rfl, rfl, by decide +kernel, rfl, by decide +kernel, by decide +kernel⟩
abbrev o54_0 : List (Str × Nat) := [("_law_cell", 8)]
theorem bk54_0 : BlkOk N54 (defScope (top 54)) ⟨.function, [(".0", .local), ("_law_cell", .local)], false, false, []⟩ o54_0 := blkOk_of (by decide +kernel)
-- _law_small(_law_draws_here, _law_since)  [(0, '_law_draws_here'), (1, '_law_since'), (2, '_law_own')]  own [('_law_draws_here', 'local'), ('_law_since', 'local'), ('_law_own', 'local'), ('int', 'globalImplicit'), ('tuple', 'globalImplicit')]
abbrev N55 : List Str := ["_law_draws_here", "_law_since", "_law_own"]
theorem sc55 : FnScope N55 ["_law_draws_here", "_law_since"] (defScope (top 55)) := ⟨rfl, rfl, rfl, by decide +kernel, rfl, by decide +kernel, by decide +kernel⟩
-- _law_world(_law_draws_here)  [(0, '_law_draws_here'), (1, '_law_depths'), (2, '_law_berths'), (3, '_law_last'), (4, '_law_harbour'), (5, '_law_k')]  own [('_law_draws_here', 'cell'), ('_law_depths', 'local'), ('_law_berths', 'local'), ('_law_last', 'local'), ('_law_harbour', 'local'), ('range', 'globalImplicit'), ('int', 'globalImplicit'), ('len', 'globalImplicit')]
abbrev N56 : List Str := ["_law_draws_here", "_law_depths", "_law_berths", "_law_last", "_law_harbour", "_law_k"]
theorem sc56 : FnScope N56 ["_law_draws_here"] (defScope (top 56)) := ⟨rfl, rfl, rfl, by decide +kernel, rfl, by decide +kernel, by decide +kernel⟩
abbrev o56_0 : List (Str × Nat) := [("_law_k", 5)]
theorem bk56_0 : BlkOk N56 (defScope (top 56)) ⟨.function, [(".0", .local), ("_law_k", .local), ("int", .globalImplicit), ("_law_draws_here", .free)], false, false, []⟩ o56_0 := blkOk_of (by decide +kernel)
abbrev o56_1 : List (Str × Nat) := [("_law_k", 5)]
theorem bk56_1 : BlkOk N56 (defScope (top 56)) ⟨.function, [(".0", .local), ("_law_k", .local), ("int", .globalImplicit), ("_law_draws_here", .free)], false, false, []⟩ o56_1 := blkOk_of (by decide +kernel)
abbrev o56_2 : List (Str × Nat) := [("_law_k", 5)]
theorem bk56_2 : BlkOk N56 (defScope (top 56)) ⟨.function, [(".0", .local), ("_law_k", .local), ("_law_small", .globalImplicit), ("_law_draws_here", .free)], false, false, []⟩ o56_2 := blkOk_of (by decide +kernel)
-- _law_promised(_law_console, _law_draws_here)  [(0, '_law_console'), (1, '_law_draws_here'), (2, '_law_draw'), (3, '_law_ship'), (4, 'e'), (5, '_law_one')]  own [('_law_console', 'cell'), ('_law_draws_here', 'local'), ('_law_draw', 'local'), ('_law_ship', 'local'), ('e', 'local'), ('int', 'globalImplicit'), ('len', 'globalImplicit'), ('Clash', 'globalImplicit'), ('any', 'globalImplicit')]
abbrev N57 : List Str := ["_law_console", "_law_draws_here", "_law_draw", "_law_ship", "e", "_law_one"]
theorem sc57 : FnScope N57 ["_law_console", "_law_draws_here"] (defScope (top 57)) := ⟨rfl, rfl, rfl, by decide +kernel, rfl, by decide +kernel, by decide +kernel⟩
abbrev o57_0 : List (Str × Nat) := [("_law_one", 5)]
theorem bk57_0 : BlkOk N57 (defScope (top 57)) ⟨.function, [(".0", .local), ("_law_one", .local), ("_law_console", .free)], false, false, []⟩ o57_0 := blkOk_of (by decide +kernel)
-- _law_moves(_law_plan, _law_hour)  [(0, '_law_plan'), (1, '_law_hour'), (2, '_law_found'), (3, '_law_name'), (4, '_law_first'), (5, '_law_berth'), (6, '_law_out'), (7, '_law_row')]  own [('_law_plan', 'local'), ('_law_hour', 'cell'), ('_law_found', 'local'), ('_law_name', 'local'), ('_law_first', 'local'), ('_law_berth', 'local'), ('_law_out', 'local'), ('range', 'globalImplicit'), ('len', 'globalImplicit'), ('sorted', 'globalImplicit')]
abbrev N58 : List Str := ["_law_plan", "_law_hour", "_law_found", "_law_name", "_law_first", "_law_berth", "_law_out", "_law_row"]
theorem sc58 : FnScope N58 ["_law_plan", "_law_hour"] (defScope (top 58)) := ⟨rfl, rfl, rfl, by decide +kernel, rfl, by decide +kernel, by decide +kernel⟩
abbrev o58_0 : List (Str × Nat) := [("_law_row", 7)]
theorem bk58_0 : BlkOk N58 (defScope (top 58)) ⟨.function, [(".0", .local), ("_law_row", .local), ("_law_hour", .free)], false, false, []⟩ o58_0 := blkOk_of (by decide +kernel)
-- _law_tuples(_law_harbour, _law_ship)  [(0, '_law_harbour'), (1, '_law_ship'), (2, '_law_depths'), (3, '_law_berths'), (4, '_law_tugs'), (5, '_law_pilots'), (6, '_law_last'), (7, '_law_found'), (8, '_law_first'), (9, '_law_out'), (10, '_law_deep'), (11, '_law_berth')]  own [('_law_harbour', 'local'), ('_law_ship', 'local'), ('_law_depths', 'local'), ('_law_berths', 'local'), ('_law_tugs', 'local'), ('_law_pilots', 'local'), ('_law_last', 'local'), ('_law_found', 'local'), ('_law_first', 'local'), ('_law_out', 'local'), ('_law_deep', 'local'), ('_law_berth', 'local'), ('range', 'globalImplicit'), ('min', 'globalImplicit'), ('int', 'globalImplicit'), ('len', 'globalImplicit')]
abbrev N59 : List Str := ["_law_harbour", "_law_ship", "_law_depths", "_law_berths", "_law_tugs", "_law_pilots", "_law_last", "_law_found", "_law_first", "_law_out", "_law_deep", "_law_berth"]
theorem sc59 : FnScope N59 ["_law_harbour", "_law_ship"] (defScope (top 59)) := ⟨rfl, rfl, rfl, by decide +kernel, rfl, by decide +kernel, by decide +kernel⟩
-- _law_beside(_law_harbour, _law_ships, _law_one, _law_other)  [(0, '_law_harbour'), (1, '_law_ships'), (2, '_law_one'), (3, '_law_other')]  own [('_law_harbour', 'local'), ('_law_ships', 'local'), ('_law_one', 'local'), ('_law_other', 'local')]
abbrev N60 : List Str := ["_law_harbour", "_law_ships", "_law_one", "_law_other"]
theorem sc60 : FnScope N60 ["_law_harbour", "_law_ships", "_law_one", "_law_other"] (defScope (top 60)) := ⟨rfl, rfl, rfl, by decide +kernel, rfl, by decide +kernel, by decide +kernel⟩
-- _law_has_plan(_law_harbour, _law_ships)  [(0, '_law_harbour'), (1, '_law_ships'), (2, '_law_rows'), (3, '_law_one'), (4, '_law_ship'), (5, '_law_other')]  own [('_law_harbour', 'cell'), ('_law_ships', 'cell'), ('_law_rows', 'local'), ('_law_one', 'cell'), ('len', 'globalImplicit'), ('any', 'globalImplicit')]
abbrev N61 : List Str := ["_law_harbour", "_law_ships", "_law_rows", "_law_one", "_law_ship", "_law_other"]
theorem sc61 : FnScope N61 ["_law_harbour", "_law_ships"] (defScope (top 61)) := ⟨rfl, rfl, rfl, by decide +kernel, rfl, by decide +kernel, by decide +kernel⟩
abbrev o61_0 : List (Str × Nat) := [("_law_ship", 4)]
theorem bk61_0 : BlkOk N61 (defScope (top 61)) ⟨.function, [(".0", .local), ("_law_ship", .local), ("_law_tuples", .globalImplicit), ("_law_harbour", .free)], false, false, []⟩ o61_0 := blkOk_of (by decide +kernel)
abbrev o61_1 : List (Str × Nat) := [("_law_other", 5)]
theorem bk61_1 : BlkOk N61 (defScope (top 61)) ⟨.function, [(".0", .local), ("_law_other", .local), ("_law_beside", .globalImplicit), ("_law_harbour", .free), ("_law_one", .free), ("_law_ships", .free)], false, false, []⟩ o61_1 := blkOk_of (by decide +kernel)
-- law(_law_script)  [(0, '_law_script'), (1, '_law_draws_here'), (2, '_law_harbour'), (3, '_law_ships'), (4, '_law_one'), (5, '_law_other'), (6, '_law_plan'), (7, '_law_hour'), (8, '_law_told'), (9, '_law_k'), (10, '_law_shown'), (11, '_law_it')]  own [('_law_script', 'local'), ('_law_draws_here', 'local'), ('_law_harbour', 'local'), ('_law_ships', 'local'), ('_law_one', 'local'), ('_law_other', 'local'), ('_law_plan', 'local'), ('_law_hour', 'local'), ('_law_told', 'local'), ('_law_k', 'local'), ('_law_shown', 'local'), ('_law_draws', 'globalImplicit'), ('_law_world', 'globalImplicit'), ('Console', 'globalImplicit'), ('NoWay', 'globalImplicit'), ('_law_has_plan', 'globalImplicit'), ('_law_promised', 'globalImplicit'), ('range', 'globalImplicit'), ('int', 'globalImplicit'), ('min', 'globalImplicit'), ('_law_moves', 'globalImplicit'), ('repr', 'globalImplicit')]
abbrev N62 : List Str := ["_law_script", "_law_draws_here", "_law_harbour", "_law_ships", "_law_one", "_law_other", "_law_plan", "_law_hour", "_law_told", "_law_k", "_law_shown", "_law_it"]
theorem sc62 : FnScope N62 ["_law_script"] (defScope (top 62)) := ⟨rfl, rfl, rfl, by decide +kernel, rfl, by decide +kernel, by decide +kernel⟩
abbrev o62_0 : List (Str × Nat) := [("_law_it", 11)]
theorem bk62_0 : BlkOk N62 (defScope (top 62)) ⟨.function, [(".0", .local), ("_law_it", .local)], false, false, []⟩ o62_0 := blkOk_of (by decide +kernel)
end TW
/-! W0: small facts for the walks. -/
namespace TW
open PySem PySem.Spec PyProof.Rows L2
section
variable {K : PySem.W.Frag} {B : Hp} {vs : List V}
theorem inv0 (h : DqAll K B vs []) : vs = [] := by
  cases h
  exact Eq.refl _
theorem inv1 {d1 : PyData} (h : DqAll K B vs [d1]) : ∃ v1, vs = [v1] ∧ Dq K B v1 d1 := by
  cases h with
  | cons q1 h =>
    cases h
    exact ⟨_, Eq.refl _, q1⟩
theorem tup1 {d1 : PyData} {v : V} (h : Dq K B v (.tuple [d1])) : ∃ a v1, v = .ref a ∧ SqT K B a [v1] ∧ Dq K B v1 d1 := by
  obtain ⟨a, xs, rfl, hq, r⟩ := Dq.tup_v h
  obtain ⟨v1, rfl, q1⟩ := inv1 r
  exact ⟨a, _, Eq.refl _, hq, q1⟩
theorem inv2 {d1 d2 : PyData} (h : DqAll K B vs [d1, d2]) : ∃ v1 v2, vs = [v1, v2] ∧ Dq K B v1 d1 ∧ Dq K B v2 d2 := by
  cases h with
  | cons q1 h =>
    cases h with
    | cons q2 h =>
      cases h
      exact ⟨_, _, Eq.refl _, q1, q2⟩
theorem tup2 {d1 d2 : PyData} {v : V} (h : Dq K B v (.tuple [d1, d2])) : ∃ a v1 v2, v = .ref a ∧ SqT K B a [v1, v2] ∧ Dq K B v1 d1 ∧ Dq K B v2 d2 := by
  obtain ⟨a, xs, rfl, hq, r⟩ := Dq.tup_v h
  obtain ⟨v1, v2, rfl, q1, q2⟩ := inv2 r
  exact ⟨a, _, _, Eq.refl _, hq, q1, q2⟩
theorem inv3 {d1 d2 d3 : PyData} (h : DqAll K B vs [d1, d2, d3]) : ∃ v1 v2 v3, vs = [v1, v2, v3] ∧ Dq K B v1 d1 ∧ Dq K B v2 d2 ∧ Dq K B v3 d3 := by
  cases h with
  | cons q1 h =>
    cases h with
    | cons q2 h =>
      cases h with
      | cons q3 h =>
        cases h
        exact ⟨_, _, _, Eq.refl _, q1, q2, q3⟩
theorem tup3 {d1 d2 d3 : PyData} {v : V} (h : Dq K B v (.tuple [d1, d2, d3])) : ∃ a v1 v2 v3, v = .ref a ∧ SqT K B a [v1, v2, v3] ∧ Dq K B v1 d1 ∧ Dq K B v2 d2 ∧ Dq K B v3 d3 := by
  obtain ⟨a, xs, rfl, hq, r⟩ := Dq.tup_v h
  obtain ⟨v1, v2, v3, rfl, q1, q2, q3⟩ := inv3 r
  exact ⟨a, _, _, _, Eq.refl _, hq, q1, q2, q3⟩
theorem inv4 {d1 d2 d3 d4 : PyData} (h : DqAll K B vs [d1, d2, d3, d4]) : ∃ v1 v2 v3 v4, vs = [v1, v2, v3, v4] ∧ Dq K B v1 d1 ∧ Dq K B v2 d2 ∧ Dq K B v3 d3 ∧ Dq K B v4 d4 := by
  cases h with
  | cons q1 h =>
    cases h with
    | cons q2 h =>
      cases h with
      | cons q3 h =>
        cases h with
        | cons q4 h =>
          cases h
          exact ⟨_, _, _, _, Eq.refl _, q1, q2, q3, q4⟩
theorem tup4 {d1 d2 d3 d4 : PyData} {v : V} (h : Dq K B v (.tuple [d1, d2, d3, d4])) : ∃ a v1 v2 v3 v4, v = .ref a ∧ SqT K B a [v1, v2, v3, v4] ∧ Dq K B v1 d1 ∧ Dq K B v2 d2 ∧ Dq K B v3 d3 ∧ Dq K B v4 d4 := by
  obtain ⟨a, xs, rfl, hq, r⟩ := Dq.tup_v h
  obtain ⟨v1, v2, v3, v4, rfl, q1, q2, q3, q4⟩ := inv4 r
  exact ⟨a, _, _, _, _, Eq.refl _, hq, q1, q2, q3, q4⟩
theorem inv5 {d1 d2 d3 d4 d5 : PyData} (h : DqAll K B vs [d1, d2, d3, d4, d5]) : ∃ v1 v2 v3 v4 v5, vs = [v1, v2, v3, v4, v5] ∧ Dq K B v1 d1 ∧ Dq K B v2 d2 ∧ Dq K B v3 d3 ∧ Dq K B v4 d4 ∧ Dq K B v5 d5 := by
  cases h with
  | cons q1 h =>
    cases h with
    | cons q2 h =>
      cases h with
      | cons q3 h =>
        cases h with
        | cons q4 h =>
          cases h with
          | cons q5 h =>
            cases h
            exact ⟨_, _, _, _, _, Eq.refl _, q1, q2, q3, q4, q5⟩
theorem tup5 {d1 d2 d3 d4 d5 : PyData} {v : V} (h : Dq K B v (.tuple [d1, d2, d3, d4, d5])) : ∃ a v1 v2 v3 v4 v5, v = .ref a ∧ SqT K B a [v1, v2, v3, v4, v5] ∧ Dq K B v1 d1 ∧ Dq K B v2 d2 ∧ Dq K B v3 d3 ∧ Dq K B v4 d4 ∧ Dq K B v5 d5 := by
  obtain ⟨a, xs, rfl, hq, r⟩ := Dq.tup_v h
  obtain ⟨v1, v2, v3, v4, v5, rfl, q1, q2, q3, q4, q5⟩ := inv5 r
  exact ⟨a, _, _, _, _, _, Eq.refl _, hq, q1, q2, q3, q4, q5⟩
theorem inv6 {d1 d2 d3 d4 d5 d6 : PyData} (h : DqAll K B vs [d1, d2, d3, d4, d5, d6]) : ∃ v1 v2 v3 v4 v5 v6, vs = [v1, v2, v3, v4, v5, v6] ∧ Dq K B v1 d1 ∧ Dq K B v2 d2 ∧ Dq K B v3 d3 ∧ Dq K B v4 d4 ∧ Dq K B v5 d5 ∧ Dq K B v6 d6 := by
  cases h with
  | cons q1 h =>
    cases h with
    | cons q2 h =>
      cases h with
      | cons q3 h =>
        cases h with
        | cons q4 h =>
          cases h with
          | cons q5 h =>
            cases h with
            | cons q6 h =>
              cases h
              exact ⟨_, _, _, _, _, _, Eq.refl _, q1, q2, q3, q4, q5, q6⟩
theorem tup6 {d1 d2 d3 d4 d5 d6 : PyData} {v : V} (h : Dq K B v (.tuple [d1, d2, d3, d4, d5, d6])) : ∃ a v1 v2 v3 v4 v5 v6, v = .ref a ∧ SqT K B a [v1, v2, v3, v4, v5, v6] ∧ Dq K B v1 d1 ∧ Dq K B v2 d2 ∧ Dq K B v3 d3 ∧ Dq K B v4 d4 ∧ Dq K B v5 d5 ∧ Dq K B v6 d6 := by
  obtain ⟨a, xs, rfl, hq, r⟩ := Dq.tup_v h
  obtain ⟨v1, v2, v3, v4, v5, v6, rfl, q1, q2, q3, q4, q5, q6⟩ := inv6 r
  exact ⟨a, _, _, _, _, _, _, Eq.refl _, hq, q1, q2, q3, q4, q5, q6⟩
theorem inv7 {d1 d2 d3 d4 d5 d6 d7 : PyData} (h : DqAll K B vs [d1, d2, d3, d4, d5, d6, d7]) : ∃ v1 v2 v3 v4 v5 v6 v7, vs = [v1, v2, v3, v4, v5, v6, v7] ∧ Dq K B v1 d1 ∧ Dq K B v2 d2 ∧ Dq K B v3 d3 ∧ Dq K B v4 d4 ∧ Dq K B v5 d5 ∧ Dq K B v6 d6 ∧ Dq K B v7 d7 := by
  cases h with
  | cons q1 h =>
    cases h with
    | cons q2 h =>
      cases h with
      | cons q3 h =>
        cases h with
        | cons q4 h =>
          cases h with
          | cons q5 h =>
            cases h with
            | cons q6 h =>
              cases h with
              | cons q7 h =>
                cases h
                exact ⟨_, _, _, _, _, _, _, Eq.refl _, q1, q2, q3, q4, q5, q6, q7⟩
theorem tup7 {d1 d2 d3 d4 d5 d6 d7 : PyData} {v : V} (h : Dq K B v (.tuple [d1, d2, d3, d4, d5, d6, d7])) : ∃ a v1 v2 v3 v4 v5 v6 v7, v = .ref a ∧ SqT K B a [v1, v2, v3, v4, v5, v6, v7] ∧ Dq K B v1 d1 ∧ Dq K B v2 d2 ∧ Dq K B v3 d3 ∧ Dq K B v4 d4 ∧ Dq K B v5 d5 ∧ Dq K B v6 d6 ∧ Dq K B v7 d7 := by
  obtain ⟨a, xs, rfl, hq, r⟩ := Dq.tup_v h
  obtain ⟨v1, v2, v3, v4, v5, v6, v7, rfl, q1, q2, q3, q4, q5, q6, q7⟩ := inv7 r
  exact ⟨a, _, _, _, _, _, _, _, Eq.refl _, hq, q1, q2, q3, q4, q5, q6, q7⟩
theorem inv8 {d1 d2 d3 d4 d5 d6 d7 d8 : PyData} (h : DqAll K B vs [d1, d2, d3, d4, d5, d6, d7, d8]) : ∃ v1 v2 v3 v4 v5 v6 v7 v8, vs = [v1, v2, v3, v4, v5, v6, v7, v8] ∧ Dq K B v1 d1 ∧ Dq K B v2 d2 ∧ Dq K B v3 d3 ∧ Dq K B v4 d4 ∧ Dq K B v5 d5 ∧ Dq K B v6 d6 ∧ Dq K B v7 d7 ∧ Dq K B v8 d8 := by
  cases h with
  | cons q1 h =>
    cases h with
    | cons q2 h =>
      cases h with
      | cons q3 h =>
        cases h with
        | cons q4 h =>
          cases h with
          | cons q5 h =>
            cases h with
            | cons q6 h =>
              cases h with
              | cons q7 h =>
                cases h with
                | cons q8 h =>
                  cases h
                  exact ⟨_, _, _, _, _, _, _, _, Eq.refl _, q1, q2, q3, q4, q5, q6, q7, q8⟩
theorem tup8 {d1 d2 d3 d4 d5 d6 d7 d8 : PyData} {v : V} (h : Dq K B v (.tuple [d1, d2, d3, d4, d5, d6, d7, d8])) : ∃ a v1 v2 v3 v4 v5 v6 v7 v8, v = .ref a ∧ SqT K B a [v1, v2, v3, v4, v5, v6, v7, v8] ∧ Dq K B v1 d1 ∧ Dq K B v2 d2 ∧ Dq K B v3 d3 ∧ Dq K B v4 d4 ∧ Dq K B v5 d5 ∧ Dq K B v6 d6 ∧ Dq K B v7 d7 ∧ Dq K B v8 d8 := by
  obtain ⟨a, xs, rfl, hq, r⟩ := Dq.tup_v h
  obtain ⟨v1, v2, v3, v4, v5, v6, v7, v8, rfl, q1, q2, q3, q4, q5, q6, q7, q8⟩ := inv8 r
  exact ⟨a, _, _, _, _, _, _, _, _, Eq.refl _, hq, q1, q2, q3, q4, q5, q6, q7, q8⟩
end
theorem zipWith_zip {α β γ : Type} (f : α → β → γ) : ∀ (l : List α) (m : List β), List.zipWith f l m = (l.zip m).map fun p => f p.1 p.2
  | [], _ => rfl
  | _ :: _, [] => rfl
  | a :: l, b :: m => congrArg (f a b :: ·) (zipWith_zip f l m)
theorem un64 {k : Nat} {A : Around} (r : Room k A) : A.units + 64 < cLine := by have := r.un; omega
theorem un32 {k : Nat} {A : Around} (r : Room k A) : A.units + 32 < cLine := by have := r.un; omega
theorem un10 {k : Nat} {A : Around} (r : Room k A) : A.in1.in1.units + 8 < cLine := by have := r.un; show A.units + 1 + 1 + 8 < _; omega
theorem line_big : sizeLine = 16777216 := by decide
theorem zpD_map {α β : Type} (f : α → PyData) (g : β → PyData) : ∀ (l : List α) (m : List β), zpD (l.map f) (m.map g) = (l.zip m).map fun p => .tuple [f p.1, g p.2]
  | [], _ => rfl
  | _ :: _, [] => rfl
  | a :: l, b :: m => congrArg (PyData.tuple [f a, g b] :: ·) (zpD_map f g l m)
theorem enD_map {α : Type} (f : α → PyData) (l : List α) : enD (l.map f) = l.zipIdx.map fun p => .tuple [.int (p.2 : Int), f p.1] := by
  unfold enD
  rw [List.zipIdx_map, List.map_map]
  rfl
theorem fm_some {α β : Type} (f : α → β) (l : List α) : l.filterMap (fun a => some (f a)) = l.map f := by
  rw [show (fun a => some (f a)) = some ∘ f from rfl, List.filterMap_eq_map]
theorem atI_nn {α : Type} {xs : List α} {i : Int} {a : α} (h0 : 0 ≤ i) (h1 : xs[i.toNat]? = some a) : atI xs i = some a := by
  have hl := (List.getElem?_eq_some_iff.mp h1).1
  unfold atI ixN
  rw [if_pos h0, if_pos (by omega)]
  exact h1
theorem atI_map {α : Type} {f : α → PyData} {l : List α} {i : Int} {d : α} (h0 : 0 ≤ i) (h1 : i < l.length) : atI (l.map f) i = some (f (l.getD i.toNat d)) := by
  refine atI_nn h0 ?_
  have hl : i.toNat < l.length := by omega
  simp [hl]
theorem atI_nat {α : Type} {f : α → PyData} {l : List α} {n : Nat} {d : α} (h1 : n < l.length) : atI (l.map f) (n : Int) = some (f (l.getD n d)) := by
  have z := atI_map (f := f) (l := l) (i := (n : Int)) (d := d) (by omega) (by omega)
  rw [Int.toNat_natCast] at z
  exact z
theorem emod_in {n : Nat} (t : Int) (h : 0 < n) : 0 ≤ t % (n : Int) ∧ t % (n : Int) < n := ⟨Int.emod_nonneg t (by omega), Int.emod_lt_of_pos t (by omega)⟩
/-! ### an own list that grows -/
structure Acc (K : PySem.W.Frag) (B0 H0 : Hp) (F : Addr) (ds : List PyData) (B' H' : Hp) : Prop where
  gr : Gr B0 H0 B' H'
  lo : B' F = none
  ex : ∃ acc, H' F = some (.lst acc) ∧ DqAll K B' acc ds
section
variable {K : PySem.W.Frag} {B0 H0 B' H' B2 H2 : Hp} {F : Addr} {ds : List PyData} {d : PyData} {v : V}
theorem Acc.new {vs : List V} (s : Same B0 H0) (hF : H0 F = none) (r : DqAll K B0 vs ds) : Acc K B0 H0 F ds B0 (upd H0 F (.lst vs)) :=
  ⟨(Gr.rfl s).mut hF (s.free hF), s.free hF, vs, upd_same, r⟩
theorem Acc.step (A : Acc K B0 H0 F ds B' H') (g : Gr B' H' B2 H2) : Acc K B0 H0 F ds B2 H2 := by
  obtain ⟨acc, h1, h2⟩ := A.ex
  exact ⟨A.gr.trans g, g.low A.lo (by rw [h1]; intro z; cases z), acc, g.hh _ _ h1, DqAll.up g.bb _ _ h2⟩
theorem Acc.bh (A : Acc K B0 H0 F ds B' H') : Same B' H' := A.gr.bh
theorem Acc.done (A : Acc K B0 H0 F ds B' H') (hF : H0 F = none) : ∃ B3, Gr B0 H0 B3 H' ∧ Dq K B3 (.ref F) (.list ds) ∧ Same B' B3 := by
  obtain ⟨acc, h1, h2⟩ := A.ex
  exact ⟨_, A.gr.freeze hF h1, .lst upd_same (DqAll.up (same_new A.lo) _ _ h2), same_new A.lo⟩
/-- change what is in it -/
theorem Acc.put (A : Acc K B0 H0 F ds B' H') (hF : H0 F = none) {ws : List V} {es : List PyData} (r : DqAll K B' ws es) : Acc K B0 H0 F es B' (upd H' F (.lst ws)) :=
  ⟨A.gr.mut hF A.lo, A.lo, ws, upd_same, r⟩
end
section
variable {X : Cx} {o e : Expr} {σ : L2.St} {B H B0 H0 : Hp} {F : Addr} {ds es : List PyData} {d : PyData} {pos apos epos : Pos} {D : Ends}
theorem ws_accApp (A : Acc X.K B0 H0 F ds B H) (hF : H0 F = none) (ho : ∀ C, Same B C → XE X o σ C (Is (.ref F))) (he : XE X e σ B (DD X.K d)) (hz : ds.length < sizeLine) (k : ∀ B' H', Same B B' → Acc X.K B0 H0 F (ds ++ [d]) B' H' → D.nx σ H')
    (hpe : PE X (.Call (.Attribute o "append" apos) [e] [] pos) (tBM X.K "list" rAppend (WE X o) (tCons (WE X e) tNil)) := by exact pe_bm PySem.F.plainAttrs_list PySem.F.slot_list_append PySem.F.type_list_append mt_append peW (pa_cons peW pa_nil))
    (hs : swapsWith (.Call (.Attribute o "append" apos) [e] [] pos) none epos.line X.env = pure false := by rfl) : WS X (.Expr (.Call (.Attribute o "append" apos) [e] [] pos) epos) D σ H := by
  obtain ⟨acc, h1, h2⟩ := A.ex
  refine ws_app ho he A.bh h1 (by rw [h2.length]; exact hz) (fun v B' H' g pv hl => k B' _ g.bb ?_) hpe hs
  exact (A.step g).put hF ((DqAll.up g.bb _ _ h2).app (.one pv))
theorem ws_accExt (A : Acc X.K B0 H0 F ds B H) (hF : H0 F = none) (ho : ∀ C, Same B C → XE X o σ C (Is (.ref F))) (he : XE X e σ B (DD X.K (.list es))) (hz : ds.length + es.length ≤ sizeLine) (k : ∀ B' H', Same B B' → Acc X.K B0 H0 F (ds ++ es) B' H' → D.nx σ H')
    (hpe : PE X (.Call (.Attribute o "extend" apos) [e] [] pos) (tBM X.K "list" rExtend (WE X o) (tCons (WE X e) tNil)) := by exact pe_bm PySem.F.plainAttrs_list PySem.F.slot_list_extend PySem.F.type_list_extend mt_extend peW (pa_cons peW pa_nil))
    (hs : swapsWith (.Call (.Attribute o "extend" apos) [e] [] pos) none epos.line X.env = pure false := by rfl) : WS X (.Expr (.Call (.Attribute o "extend" apos) [e] [] pos) epos) D σ H := by
  obtain ⟨acc, h1, h2⟩ := A.ex
  refine ws_ext ho he A.bh h1 (by rw [h2.length]; exact hz) (fun vs B' H' g pv hl => k B' _ g.bb ?_) hpe hs
  exact (A.step g).put hF ((DqAll.up g.bb _ _ h2).app pv)
theorem ws_accPut {i : Expr} {n : Int} {spos : Pos} (A : Acc X.K B0 H0 F ds B H) (hF : H0 F = none) (he : XE X e σ B (DD X.K d)) (ho : ∀ C, Same B C → XE X o σ C (Is (.ref F))) (hi : XI X i σ B n) (h0 : 0 ≤ n) (hn : n < ds.length) (k : ∀ B' H', Same B B' → Acc X.K B0 H0 F (ds.set n.toNat d) B' H' → D.nx σ H')
    (hs : swapsWithSole [.Subscript o i spos] e pos.line X.env = pure false := by rfl) (hw : swappedStores [.Subscript o i spos] e X.env = pure none := by rfl)
    (ha : ∀ v, assign (.Subscript o i spos) X.env v = (do
      let ov ← holding [v] (eval o X.env)
      let iv ← holding [v, ov] (eval i X.env)
      standAt spos
      holding [v, ov, iv] (setItem ov iv v)
      release [v, ov, iv] []) := by intro _; rfl) : WS X (.Assign [.Subscript o i spos] e pos) D σ H := by
  obtain ⟨acc, h1, h2⟩ := A.ex
  refine ws_put he ho hi A.bh h1 (j := n.toNat) ?_ (fun v B' H' g pv hl => k B' _ g.bb ?_) hs hw ha
  · unfold ixN
    rw [h2.length, if_pos h0, if_pos hn]
  · exact (A.step g).put hF (DqAll.set pv _ (DqAll.up g.bb _ _ h2))
end
/-! ### defs with keyword-only parameters -/
structure DnK (P : Program) (w : World) (K : PySem.W.Frag) (mg : Str → Option Value) (base : Heap) (CX : CXT) (k : Nat) (x : Str) (ps : List Str) (n : Nat) (ks : List Str) (sp : Sp) : Prop where
  ex : ∃ f fd, FnOk P w K mg base CX k f fd ps sp ∧ mg x = some (.ref f) ∧ PySem.W.keepIn K (.ref f) = true ∧ KBn K fd ps n ks (fun us ws => us ++ ws) (fun vs zs => vs ++ zs)
section
variable {P : Program} {w : World} {K : PySem.W.Frag} {mg : Str → Option Value} {base : Heap}
theorem dnk_of {x qual : Str} {st : Stmt} {N ps : List Str} {k : Nat} {α : Type} {A : α → Hp → List V → Prop} {R : α → Hp → V → Prop} (n : Nat) (ks : List Str) (D : FunX K mg x qual st) (S : FnScope N ps (defScope st))
    (hb : ∀ (kV doc pm : Value) (an : Option Addr) (cdv ct : Value) (us ws : List Value), us.length = n → ws.length = ks.length → bindArgs (PySem.W.fnOf qual qual (defArgs st) (defBody st) (defScope st) .none kV doc pm an cdv ct) ⟨us, ks.zip ws⟩ = pure (ps.zip (us ++ ws)))
    (len : ∀ y B vs, A y B vs → vs.length = ps.length)
    (body : ∀ (f : Addr) (cdv : Value) (A0 : Around) (outer : List Env) (s : Shared) (H : Hp) (vs : List V) (E : XK) (y : α) (B : Hp) (Q : VK), Room k (A0.deeper (envOfC qual (defScope st) s.heap.objs.size f cdv)) → Same B H → A y B vs → (∀ v B' H', Gr B H B' H' → R y B' v → Q v H') →
      WSs (cxOf CX0 P w K mg base N qual (defScope st) f cdv A0 outer s H E).nox (defBody st) { nx := fun _ H' => Q .non H', rt := Q } (start N vs) H) : DnK P w K mg base CX0 (k + 1) x ps n ks (SpP A R) := by
  obtain ⟨f, fd, F, hm⟩ := D.ex
  refine ⟨f, fd, F.ok S (fun vs H Q E h => ?_) (fun cdv A0 outer s H vs Q E hr h => ?_), hm, F.kp, ?_⟩
  · obtain ⟨y, B, _, ha, _⟩ := h
    exact len y B vs ha
  · obtain ⟨y, B, sb, ha, q⟩ := h
    exact ⟨_, pssW, body f cdv A0 outer s H vs E y B Q hr sb ha q⟩
  · obtain ⟨oc, od, kV, doc, pm, an, cdv, ct, osl, rfl, lk, hcd⟩ := F.ex
    exact ⟨fun s us ws _ l1 l2 => .of_eq (hb kV doc pm an cdv ct us ws l1 l2), fun r1 r2 => r1.append r2⟩
/-- the keywords' values -/
def WK (X : Cx) (kws : List Keyword) : TA := fun σ H Q => ∀ (pins : List (Addr × Obj)) (s : Shared), L2.Inv X pins σ H s → wpAny (model X.prog X.w) X.A (evalAll ((keywordEach kws X.env).map (·.2))) (AP X pins σ Q) X.xe s
theorem x_callK {X : Cx} {e e2 : Expr} {es : List Expr} {σ : L2.St} {B : Hp} {pp kpos pos : Pos} {nm : Option Str} {α : Type} {k n : Nat} {x : Str} {ps ks : List Str} {A : α → Hp → List V → Prop} {R : α → Hp → V → Prop} {ds : List PyData} {d : PyData} (y : α) (G : DnK X.prog X.w X.K X.mg X.base CX0 k x ps n ks (SpP A R)) (hr : Room k X.A) (hg : Gl X x) (ha : XD X (e :: es) σ B ds) (hk : XE X e2 σ B (DD X.K d))
    (hA : ∀ C vs v, Same B C → DqAll X.K C vs ds → Dq X.K C v d → A y C (vs ++ [v])) (hn : ds.length = n) (h1 : ks.length = 1)
    (hall : (backToKw pos (keywordEach [⟨nm, e2, kpos⟩] X.env)).all (·.1.isSome) = true := by rfl) (hks : (backToKw pos (keywordEach [⟨nm, e2, kpos⟩] X.env)).filterMap (·.1) = ks := by rfl)
    (hdb : (x == ("__debug__" : Str)) = false := by decide) (he : starEach (e :: es) X.env = (false, eval e X.env) :: starEach es X.env := by rfl)
    (hpl : ((backTo pos (starEach (e :: es) X.env)).any (·.1) || (backToKw pos (keywordEach [⟨nm, e2, kpos⟩] X.env)).any (·.1.isNone)) = false := by rfl) : XE X (.Call (.Name x pp) (e :: es) [⟨nm, e2, kpos⟩] pos) σ B (R y) := fun H s Q q => by
  obtain ⟨f, fd, F, hm, hk', hb⟩ := G.ex
  refine we_of (pe_callN (E := E0) F hr hg hm hk' hb pass0 paW (pk_cons peW pk_nil) hall hks hdb he hpl) ?_
  refine ha H s _ fun vs B1 H1 g1 p1 => ?_
  refine hk.up g1.bb H1 g1.bh _ fun v B2 H2 g2 p2 => ?_
  refine ⟨by rw [DqAll.length p1]; exact hn, h1.symm, y, B2, g2.bh, hA B2 vs v (g1.bb.trans g2.bb) (DqAll.up g2.bb _ _ p1) p2, fun z B3 H3 g3 p3 => q z B3 H3 ((g1.trans g2).trans g3) p3⟩
end
/-! ### argument lists of mixed kinds -/
def PCons (P : Hp → V → Prop) (PL : Hp → List V → Prop) : Hp → List V → Prop := fun C vs => ∃ v r, vs = v :: r ∧ P C v ∧ PL C r
def PNil : Hp → List V → Prop := fun _ vs => vs = []
instance : MonoL PNil := ⟨fun _ h => h⟩
instance {P : Hp → V → Prop} {PL : Hp → List V → Prop} [Mono P] [MonoL PL] : MonoL (PCons P PL) := ⟨fun s h => by
  obtain ⟨v, r, e, a, b⟩ := h
  exact ⟨v, r, e, Mono.up s a, MonoL.up s b⟩⟩
theorem xp_nil {X : Cx} {σ : L2.St} {B : Hp} : XA X [] σ B PNil := xa_nil rfl
theorem xp_cons {X : Cx} {e : Expr} {es : List Expr} {σ : L2.St} {B : Hp} {P : Hp → V → Prop} {PL : Hp → List V → Prop} [Mono P] [MonoL PL] (h : XE X e σ B P) (hr : XA X es σ B PL) (hs : starEach (e :: es) X.env = (false, eval e X.env) :: starEach es X.env := by rfl) : XA X (e :: es) σ B (PCons P PL) :=
  xa_cons h hr (fun C v vs _ a b => ⟨v, vs, rfl, a, b⟩) hs
theorem XA.imp {X : Cx} {es : List Expr} {σ : L2.St} {B : Hp} {P P2 : Hp → List V → Prop} (h : XA X es σ B P) (f : ∀ C vs, Same B C → P C vs → P2 C vs) : XA X es σ B P2 := fun H s Q k => h H s Q fun v B' H' g pv => k v B' H' g (f _ _ g.bb pv)
end TW
/-! W1: depth_at, waits, cost_of, beginning, is_end, berths_for. -/
namespace TW
open PySem PySem.Spec PyProof.Rows L2
section
variable {P : Program} {w : World} {K : PySem.W.Frag} {mg : Str → Option Value} {base : Heap}
def A17 (K : PySem.W.Frag) (y : Harb × Int) (B : Hp) (vs : List V) : Prop := (0 < y.1.depths.length) ∧ DqAll K B vs [eHarb y.1, .int y.2]
theorem dn17 (T : Txt K mg) : Dn P w K mg base CX0 1 "depth_at" ["harbour", "hour"] (SpP (A17 K) fun y => DD K (.int (depthAt y.1 y.2))) :=
  dn_of T.f17 sc17 (fun _ _ _ _ _ _ us hl => match us, hl with | [_, _], _ => rfl) (fun y B vs h => h.2.length) fun f cdv A0 outer s H vs E y B Q hr sb ha q => by
    obtain ⟨h0, hv⟩ := ha
    obtain ⟨v1, v2, rfl, r1, r2⟩ := inv2 hv
    refine ws_one (ws_ret (P := DD K (.int (depthAt y.1 y.2))) ?_ sb q)
    refine x_ixL (ds := y.1.depths.map .int) (i := y.2 % ((y.1.depths.map PyData.int).length : Int)) (x_ixT (x_var 0 rfl r1) x_int rfl) (x_mod (x_var 1 rfl r2) (x_lenL rfl T.b_len (x_ixT (x_var 0 rfl r1) x_int rfl)) ?_) ?_
    · rw [List.length_map]
      omega
    · rw [List.length_map]
      obtain ⟨e1, e2⟩ := emod_in y.2 h0
      exact atI_map e1 e2
def A18 (K : PySem.W.Frag) (y : List Ship × List Trip) (B : Hp) (vs : List V) : Prop := (y.1.length < 100) ∧ DqAll K B vs [eShips y.1, eTrips y.2]
theorem dn18 (T : Txt K mg) : Dn P w K mg base CX0 1 "waits" ["ships", "plan"] (SpP (A18 K) fun y => DD K (ePairs (waitsOf y.1 y.2))) :=
  dn_of T.f18 sc18 (fun _ _ _ _ _ _ us hl => match us, hl with | [_, _], _ => rfl) (fun y B vs h => h.2.length) fun f cdv A0 outer s H vs E y B Q hr sb ha q => by
    obtain ⟨h0, hv⟩ := ha
    obtain ⟨v1, v2, rfl, r1, r2⟩ := inv2 hv
    refine ws_one (ws_ret (P := DD K (ePairs (waitsOf y.1 y.2))) ?_ sb q)
    have e : ePairs (waitsOf y.1 y.2) = .list (((y.1.zip y.2).map fun p => (p.2.1 - p.1.ready, p.2.2.2 - p.2.1 - p.1.stay - 1)).map ePair) := by
      unfold ePairs waitsOf
      rw [zipWith_zip]
    rw [e]
    refine x_lcM (l := y.1.zip y.2) (enc := fun p => .tuple [eShip p.1, eTrip p.2]) (enc' := ePair) (own := o18_0) _ ?_ ?_ ?_ rfl sc18.nd bk18_0
    · rw [← zpD_map]
      exact xi_zip rfl T.b_zip (x_var 0 rfl r1) (x_var 1 rfl r2)
    · intro i a v B' ea sb' hd
      obtain ⟨l, u1, u2, rfl, hq, q1, q2⟩ := tup2 hd
      obtain ⟨l2, u3, u4, u5, rfl, hq2, p1, p2, p3⟩ := tup3 q2
      apply lc_map
      · rintro XB ⟨_, _, _, _, _, rfl⟩
        refine ⟨xg_tup rfl hq (xgs_cons (xg_name 2 sc18.nd) (xgs_cons (xg_tup rfl hq2 (xgs_cons (xg_name 3 sc18.nd) (xgs_cons (xg_name 4 sc18.nd) (xgs_cons (xg_name 5 sc18.nd) xgs_nil)))) xgs_nil)), ?_⟩
        exact x_tup (xd_cons (x_sub (x_var 3 rfl p1) (x_ixT (x_var 2 rfl q1) x_int rfl)) (xd_cons (x_sub (x_sub (x_sub (x_var 5 rfl p3) (x_var 3 rfl p1)) (x_ixT (x_var 2 rfl q1) x_int rfl)) x_int) xd_nil))
      · rfl
    · rw [List.length_zip, line_big]
      omega
/-- numbers that are small -/
def Sm (i : Int) : Prop := -(2 ^ 64) < i ∧ i < 2 ^ 64
def A19 (K : PySem.W.Frag) (y : List Ship × List Trip) (B : Hp) (vs : List V) : Prop := (y.1.length < 100 ∧ ∀ s ∈ y.1, Sm s.sea ∧ Sm s.lie) ∧ DqAll K B vs [eShips y.1, eTrips y.2]
theorem dn19 (T : Txt K mg) : Dn P w K mg base CX0 2 "cost_of" ["ships", "plan"] (SpP (A19 K) fun y => DD K (.int (costOf y.1 y.2))) :=
  dn_of T.f19 sc19 (fun _ _ _ _ _ _ us hl => match us, hl with | [_, _], _ => rfl) (fun y B vs h => h.2.length) fun f cdv A0 outer s H vs E y B Q hr sb ha q => by
    obtain ⟨⟨h0, h1⟩, hv⟩ := ha
    obtain ⟨v1, v2, rfl, r1, r2⟩ := inv2 hv
    refine ws_one (ws_ret (P := DD K (.int (costOf y.1 y.2))) ?_ sb q)
    have e : costOf y.1 y.2 = ((y.1.zip (waitsOf y.1 y.2)).map fun p => p.2.1 * p.1.sea + p.2.2 * p.1.lie).sum := by
      unfold costOf
      rw [zipWith_zip]
    rw [e]
    refine x_sum rfl rfl T.b_sum ?_
    refine x_lcM (l := y.1.zip (waitsOf y.1 y.2)) (enc := fun p => .tuple [eShip p.1, ePair p.2]) (own := o19_0) _ ?_ ?_ ?_ rfl sc19.nd bk19_0
    · rw [← zpD_map]
      exact xi_zip rfl T.b_zip (x_var 0 rfl r1) (x_call (y := y) (dn18 T) hr rfl (xa_cons (P0 := DD K _) (PL := DDs K [_]) (x_var 0 rfl r1) (xd_cons (x_var 1 rfl r2) xd_nil) (fun _ _ _ _ a b => ⟨h0, .cons a b⟩)))
    · intro i a v B' ea sb' hd
      obtain ⟨l, u1, u2, rfl, hq, q1, q2⟩ := tup2 hd
      obtain ⟨l2, u3, u4, rfl, hq2, p1, p2⟩ := tup2 q2
      have hm := h1 a.1 (List.of_mem_zip (List.mem_of_getElem? ea)).1
      apply lc_map
      · rintro XB ⟨_, _, _, _, _, rfl⟩
        refine ⟨xg_tup rfl hq (xgs_cons (xg_name 2 sc19.nd) (xgs_cons (xg_tup rfl hq2 (xgs_cons (xg_name 3 sc19.nd) (xgs_cons (xg_name 4 sc19.nd) xgs_nil))) xgs_nil)), ?_⟩
        exact x_add (x_mul (x_var 3 rfl p1) (x_ixT (x_var 2 rfl q1) x_int rfl) (.inr hm.1)) (x_mul (x_var 4 rfl p2) (x_ixT (x_var 2 rfl q1) x_int rfl) (.inr hm.2))
      · rfl
    · rw [List.length_zip, line_big]
      omega
def A23 (K : PySem.W.Frag) (y : List Ship) (B : Hp) (vs : List V) : Prop := (y.length < 100) ∧ DqAll K B vs [eShips y]
theorem dn23 (T : Txt K mg) : Dn P w K mg base CX0 1 "beginning" ["ships"] (SpP (A23 K) fun y => DD K (eSta (beginOf y))) :=
  dn_of T.f23 sc23 (fun _ _ _ _ _ _ us hl => match us, hl with | [_], _ => rfl) (fun y B vs h => h.2.length) fun f cdv A0 outer s H vs E y B Q hr sb ha q => by
    obtain ⟨h0, hv⟩ := ha
    obtain ⟨v1, rfl, r1⟩ := inv1 hv
    refine ws_one (ws_ret (P := DD K (eSta (beginOf y))) ?_ sb q)
    refine x_tup (xd_cons x_int (xd_cons (x_tupleOf rfl T.b_tuple ?_) xd_nil))
    refine x_lcM (l := y) (enc := eShip) (enc' := ePair) (own := o23_0) (fun _ => SEA) (xi_list (x_var 0 rfl r1)) ?_ ?_ rfl sc23.nd bk23_0
    · intro i a v B' ea sb' hd
      apply lc_map
      · rintro XB ⟨_, _, _, _, _, rfl⟩
        refine ⟨xg_name 1 sc23.nd, ?_⟩
        exact x_con T.c_SEA_best rfl
      · rfl
    · rw [line_big]
      omega
def A24 (K : PySem.W.Frag) (y : Sta) (B : Hp) (vs : List V) : Prop := (y.2.length < 100) ∧ DqAll K B vs [eSta y]
theorem eqv_pair (p q : Int × Int) : PyData.eqv (ePair p) (ePair q) = decide (p = q) := by
  obtain ⟨a, b⟩ := p
  obtain ⟨c, d⟩ := q
  simp [ePair, PyData.eqv, PyData.eqvAll, Prod.ext_iff]
  rfl
theorem shaped_pair (p : Int × Int) : SeqAt.shaped (ePair p) = true := rfl
theorem c_eqP {X : Cx} {p q : Int × Int} (hu : X.A.units + 64 < cLine) : CmpOk X .Eq (ePair p) (ePair q) (decide (p = q)) := by
  have z := c_eq (X := X) hu (shaped_pair p) (shaped_pair q)
  rw [eqv_pair] at z
  exact z
theorem c_eqI {X : Cx} {i j : Int} (hu : X.A.units + 64 < cLine) : CmpOk X .Eq (.int i) (.int j) (decide (i = j)) := by
  have z := c_eq (X := X) (d1 := .int i) (d2 := .int j) hu rfl rfl
  have e : PyData.eqv (.int i) (.int j) = decide (i = j) := by
    simp [PyData.eqv]
    rfl
  rw [e] at z
  exact z
theorem dn24 (T : Txt K mg) : Dn P w K mg base CX0 1 "is_end_best" ["state"] (SpP (A24 K) fun y => DD K (.bool (isEnd y.2))) :=
  dn_of T.f24 sc24 (fun _ _ _ _ _ _ us hl => match us, hl with | [_], _ => rfl) (fun y B vs h => h.2.length) fun f cdv A0 outer s H vs E y B Q hr sb ha q => by
    obtain ⟨h0, hv⟩ := ha
    obtain ⟨v1, rfl, r1⟩ := inv1 hv
    refine ws_one (ws_ret (P := DD K (.bool (isEnd y.2))) ?_ sb q)
    have e : isEnd y.2 = (y.2.map fun p => decide (p = GONE)).all id := by
      unfold isEnd
      rw [List.all_map]
      rfl
    rw [e]
    refine x_all rfl rfl T.b_all ?_
    refine x_lcM (l := y.2) (enc := ePair) (own := o24_0) _ (xi_tup (x_ixT (x_var 0 rfl r1) x_int rfl)) ?_ ?_ rfl sc24.nd bk24_0
    · intro i a v B' ea sb' hd
      apply lc_map
      · rintro XB ⟨_, _, _, _, _, rfl⟩
        refine ⟨xg_name 1 sc24.nd, ?_⟩
        exact x_cmp (c_eqP (un64 hr)) (x_var 1 rfl hd) (x_con T.c_GONE_best rfl)
      · rfl
    · rw [line_big]
      omega
end
end TW
/-! W2: berths_for, is_kept, choices. -/
namespace TW
open PySem PySem.Spec PyProof.Rows L2
section
variable {P : Program} {w : World} {K : PySem.W.Frag} {mg : Str → Option Value} {base : Heap}
theorem some_if {α : Type} (p q : Prop) [Decidable p] [Decidable q] (x : α) : (if p ∧ q then some x else none).isSome = (decide p && decide q) := by
  by_cases hp : p <;> by_cases hq : q <;> simp [hp, hq]
def A26 (K : PySem.W.Frag) (y : Harb × Ship × List (Int × Int)) (B : Hp) (vs : List V) : Prop := (y.1.berths.length < 100 ∧ y.2.2.length < 100) ∧ DqAll K B vs [eHarb y.1, eShip y.2.1, ePls y.2.2]
theorem dn26 (T : Txt K mg) : Dn P w K mg base CX0 1 "berths_for" ["harbour", "ship", "places"] (SpP (A26 K) fun y => DD K (eInts (berthsFor y.1 y.2.1 y.2.2))) :=
  dn_of T.f26 sc26 (fun _ _ _ _ _ _ us hl => match us, hl with | [_, _, _], _ => rfl) (fun y B vs h => h.2.length) fun f cdv A0 outer s H vs E y B Q hr sb ha q => by
    obtain ⟨⟨h0, h1⟩, hv⟩ := ha
    obtain ⟨v1, v2, v3, rfl, r1, r2, r3⟩ := inv3 hv
    refine ws_cons (ws_set (P := DD K (.list ((y.2.2.map (·.1)).map .int))) 3 ?_ sb (fun v B1 H1 g1 p1 => ?_) (hN := sc26.nd))
    · refine x_lcM (l := y.2.2) (enc := ePair) (own := o26_0) _ (xi_tup (x_var 2 rfl r3)) ?_ (by rw [line_big]; omega) rfl sc26.nd bk26_0
      intro i a v B' ea sb' hd
      apply lc_map
      · rintro XB ⟨_, _, _, _, _, rfl⟩
        exact ⟨xg_name 4 sc26.nd, x_ixT (x_var 4 rfl hd) x_int rfl⟩
      · rfl
    · refine ws_one (ws_ret (P := DD K (eInts (berthsFor y.1 y.2.1 y.2.2))) ?_ g1.bh fun v' B' H' g' => q v' B' H' (g1.trans g'))
      refine x_lc (l := y.1.berths.zipIdx) (enc := fun p => .tuple [.int (p.2 : Int), .int p.1]) (own := o26_1) ?_ _ ?_ ?_ rfl sc26.nd bk26_1
      · rw [← enD_map]
        exact xi_enum rfl T.b_enumerate (x_ixT (x_var 0 rfl (Dq.up g1.bb _ _ r1)) x_int rfl)
      · intro i a v' B' ea sb' hd
        obtain ⟨l, u1, u2, rfl, hq, q1, q2⟩ := tup2 hd
        apply lc_turn
        · rintro XB ⟨_, _, _, _, _, rfl⟩
          refine ⟨xg_tup rfl hq (xgs_cons (xg_name 5 sc26.nd) (xgs_cons (xg_name 6 sc26.nd) xgs_nil)), xts_one (XT.is (xt_w (xw_and (xt_cmp c_ge (x_var 6 rfl q2) (x_ixT (x_var 1 rfl (Dq.up (g1.bb.trans sb') _ _ r2)) x_int rfl)) fun _ => xw_and1 (xt_cmp c_nin (x_var 5 rfl q1) (x_var 3 rfl (Dq.up sb' _ _ p1))))) ?_), fun r hr => ?_⟩
          · rw [some_if]
            simp
          · obtain ⟨_, rfl⟩ : _ ∧ (a.2 : Int) = r := by simpa using hr
            exact x_var 5 rfl q1
        · rfl
      · rw [List.length_zipIdx, line_big]
        omega
def A28 (K : PySem.W.Frag) (y : Lat × Nat × Int) (B : Hp) (vs : List V) : Prop := (y.2.1 < y.1.length) ∧ DqAll K B vs [eProm y.1, .int (y.2.1 : Int), .int y.2.2]
theorem dn28 (T : Txt K mg) : Dn P w K mg base CX0 1 "is_kept" ["latest", "name", "hour"] (SpP (A28 K) fun y => DD K (.bool (isKept y.1 y.2.1 y.2.2))) :=
  dn_of T.f28 sc28 (fun _ _ _ _ _ _ us hl => match us, hl with | [_, _, _], _ => rfl) (fun y B vs h => h.2.length) fun f cdv A0 outer s H vs E y B Q hr sb ha q => by
    obtain ⟨h0, hv⟩ := ha
    obtain ⟨v1, v2, v3, rfl, r1, r2, r3⟩ := inv3 hv
    refine ws_one (ws_ret (P := DD K (.bool (isKept y.1 y.2.1 y.2.2))) ?_ sb q)
    have hix : atI (y.1.map eOpt) (y.2.1 : Int) = some (eOpt (y.1.getD y.2.1 none)) := atI_nat h0
    have e : isKept y.1 y.2.1 y.2.2 = (false || ((match eOpt (y.1.getD y.2.1 none) with | .none => true | _ => false) || (match y.1.getD y.2.1 none with | none => true | some x => decide (y.2.2 ≤ x)))) := by
      unfold isKept
      cases y.1.getD y.2.1 none <;> rfl
    rw [e]
    refine x_or (x_cmp (c_isN (d1 := eProm y.1)) (x_var 0 rfl r1) x_non) fun _ => x_or (x_cmp c_isN (x_ixL (x_var 0 rfl r1) (x_var 1 rfl r2) hix) x_non) fun hz => x_and1 ?_
    cases hq : y.1.getD y.2.1 none with
    | none =>
      rw [hq] at hz
      cases hz
    | some x =>
      rw [hq] at hix
      exact x_cmp c_le (x_var 2 rfl r3) (x_ixL (x_var 0 rfl r1) (x_var 1 rfl r2) hix)
/-- a world and a state of it -/
structure Ok (h : Harb) (ships : List Ship) (st : Sta) : Prop where
  dn : 0 < h.depths.length
  bn : h.berths.length ≤ 2
  sn : ships.length ≤ 2
  pl : st.2.length = ships.length
theorem plAt_eq {st : Sta} {n : Nat} (h : n < st.2.length) : atI (st.2.map ePair) (n : Int) = some (ePair (plAt st n)) := atI_nat h
theorem berthsFor_le (h : Harb) (s : Ship) (ps : List (Int × Int)) : (berthsFor h s ps).length ≤ h.berths.length := by
  unfold berthsFor
  refine Nat.le_trans (List.length_filterMap_le ..) ?_
  rw [List.length_zipIdx]
  exact Nat.le_refl _
def A27 (K : PySem.W.Frag) (y : Harb × List Ship × Sta × Lat) (B : Hp) (vs : List V) : Prop := (Ok y.1 y.2.1 y.2.2.1 ∧ y.2.2.2.length = y.2.1.length) ∧ DqAll K B vs [eHarb y.1, eShips y.2.1, eSta y.2.2.1, eProm y.2.2.2]
theorem dn27 (T : Txt K mg) : Dn P w K mg base CX0 2 "choices" ["harbour", "ships", "state", "latest"] (SpP (A27 K) fun y => DD K (.list ((choicesOf y.1 y.2.1 y.2.2.1 y.2.2.2).map eInts))) :=
  dn_of T.f27 sc27 (fun _ _ _ _ _ _ us hl => match us, hl with | [_, _, _, _], _ => rfl) (fun y B vs h => h.2.length) fun f cdv A0 outer s H vs E y B Q hr sb ha q => by
    obtain ⟨hd, ships, st, lat⟩ := y
    obtain ⟨⟨ok, h1⟩, hv⟩ := ha
    change Ok hd ships st at ok
    obtain ⟨v1, v2, v3, v4, rfl, r1, r2, r3, r4⟩ := inv4 hv
    obtain ⟨a, u1, u2, rfl, hq, q1, q2⟩ := tup2 r3
    refine ws_cons (ws_asg (P := Is (.ref a)) (x_var 2 rfl rfl) sb fun v B1 H1 g1 p1 => ?_)
    obtain rfl : v = .ref a := p1
    refine ⟨_, xg_tup rfl (Same.seqT g1.bb hq) (xgs_cons (xg_name 4 sc27.nd) (xgs_cons (xg_name 5 sc27.nd) xgs_nil)), ?_⟩
    refine ws_cons (ws_newL 6 xd_nil g1.bh (fun F vs B2 H2 g2 p2 hF => ?_) (hN := sc27.nd))
    obtain rfl := inv0 p2
    have g12 := g1.trans g2
    have r1' := Dq.up g12.bb _ _ r1
    have r2' := Dq.up g12.bb _ _ r2
    have r4' := Dq.up g12.bb _ _ r4
    have q1' := Dq.up g12.bb _ _ q1
    have q2' := Dq.up g12.bb _ _ q2
    have A0' : Acc K B2 H2 F [] B2 (upd H2 F (.lst [])) := Acc.new g2.bh hF .nil
    refine ws_cons (ws_forB (l := ships.zipIdx) (enc := fun p => .tuple [.int (p.2 : Int), eShip p.1]) rfl ?_ A0'.bh fun B3 H3 g3 => ?_)
    · rw [← enD_map]
      exact xi_enum rfl T.b_enumerate (x_var 1 rfl r2')
    · refine ⟨fun i σ' B' H' => (∃ x7 x8 x9, σ' = [some v1, some v2, some (.ref a), some v4, some u1, some u2, some (.ref F), x7, x8, x9]) ∧ Acc K B2 H2 F (((choicesOf hd ships st lat).take i).map eInts) B' H' ∧ Same B3 B',
        ⟨⟨_, _, _, rfl⟩, A0'.step g3, .refl _⟩, fun i σ' B' H' h => ⟨h.2.2, h.2.1.bh⟩, ?_, ?_⟩
      · rintro i ⟨sh, n⟩ v σ' B' H' B4 H4 ea ⟨⟨x7, x8, x9, rfl⟩, ac, sB⟩ g4 dv
        obtain ⟨b, w1, w2, rfl, hq', t1, t2⟩ := tup2 dv
        obtain ⟨e1, e2⟩ : ships[i]? = some sh ∧ i = n := by
          rw [List.getElem?_zipIdx] at ea
          cases hz : ships[i]? with
          | none => rw [hz] at ea; cases ea
          | some z =>
            rw [hz] at ea
            simp at ea
            exact ⟨by rw [ea.1], ea.2⟩
        subst e2
        have hin : i < ships.length := (List.getElem?_eq_some_iff.mp e1).1
        have hil : i < st.2.length := by rw [ok.pl]; exact hin
        have hla : i < lat.length := by rw [show lat.length = ships.length from h1]; exact hin
        have sb4 : Same B2 B4 := (ac.gr.bb).trans g4.bb
        have erow : (choicesOf hd ships st lat)[i]? = some (rowOf hd st lat i sh) := by
          unfold choicesOf
          rw [List.getElem?_map, ea]
          rfl
        refine ⟨_, xg_tup rfl hq' (xgs_cons (xg_name 7 sc27.nd) (xgs_cons (xg_name 8 sc27.nd) xgs_nil)), ?_⟩
        refine ws_cons (ws_set (P := DD K (.list [])) 9 (x_lst xd_nil) g4.bh (fun rv B5 H5 g5 p5 => ?_) (hN := sc27.nd))
        have acc4 := ac.step g4
        have acc5 := acc4.step g5
        have s5 : Same B2 B5 := sb4.trans g5.bb
        have c1 : Dq K B5 v1 (eHarb hd) := Dq.up s5 _ _ r1'
        have c4 : Dq K B5 v4 (eProm lat) := Dq.up s5 _ _ r4'
        have cu1 : Dq K B5 u1 (.int st.1) := Dq.up s5 _ _ q1'
        have cu2 : Dq K B5 u2 (ePls st.2) := Dq.up s5 _ _ q2'
        have ct1 : Dq K B5 w1 (.int (i : Int)) := Dq.up g5.bb _ _ t1
        have ct2 : Dq K B5 w2 (eShip sh) := Dq.up g5.bb _ _ t2
        have hpl : atI (st.2.map ePair) (i : Int) = some (ePair (plAt st i)) := plAt_eq hil
        refine ws_cut (fun σ6 H6 => ∃ rv B6, σ6 = [some v1, some v2, some (.ref a), some v4, some u1, some u2, some (.ref F), some w1, some w2, some rv] ∧ Gr B5 H5 B6 H6 ∧ Dq K B6 rv (eInts (rowOf hd st lat i sh))) ?_ ?_
        · refine ws_if (t := decide (sh.draught ≤ depthAt hd st.1)) (xt_cmp c_ge (x_call (y := (hd, st.1)) (dn17 T) hr rfl (xa_cons (P0 := DD K _) (PL := DDs K [_]) (x_var 0 rfl c1) (xd_cons (x_var 4 rfl cu1) xd_nil) (fun _ _ _ _ a b => ⟨ok.dn, .cons a b⟩))) (x_ixT (x_var 8 rfl ct2) x_int rfl)) g5.bh ?_ ?_
          · intro hc B6 H6 g6
            have s6 := g6.bb
            refine ws_one (ws_if (t := decide (plAt st i = SEA) && decide (sh.ready ≤ st.1)) (xt_w (xw_and (xt_cmp (c_eqP (un64 hr)) (x_ixT (x_var 5 rfl (Dq.up s6 _ _ cu2)) (x_var 7 rfl (Dq.up s6 _ _ ct1)) hpl) (x_con T.c_SEA_best rfl)) fun _ => xw_and1 (xt_cmp c_le (x_ixT (x_var 8 rfl (Dq.up s6 _ _ ct2)) x_int rfl) (x_var 4 rfl (Dq.up s6 _ _ cu1))))) g6.bh ?_ ?_)
            · intro hb B7 H7 g7
              have s7 := s6.trans g7.bb
              refine ws_one (ws_set (P := DD K (eInts (berthsFor hd sh st.2))) 9 (x_call (y := (hd, sh, st.2)) (dn26 T) hr rfl (xa_cons (P0 := DD K _) (PL := DDs K [_, _]) (x_var 0 rfl (Dq.up s7 _ _ c1)) (xd_cons (x_var 8 rfl (Dq.up s7 _ _ ct2)) (xd_cons (x_var 5 rfl (Dq.up s7 _ _ cu2)) xd_nil)) (fun _ _ _ _ a b => ⟨⟨by have := ok.bn; show hd.berths.length < 100; omega, by have := ok.pl; have := ok.sn; show st.2.length < 100; omega⟩, .cons a b⟩))) g7.bh (fun rv B8 H8 g8 p8 => ⟨rv, B8, rfl, (g6.trans g7).trans g8, ?_⟩) (hN := sc27.nd))
              simp only [Bool.and_eq_true, decide_eq_true_eq] at hb hc
              have e : rowOf hd st lat i sh = berthsFor hd sh st.2 := by
                unfold rowOf
                rw [if_pos hc, if_pos hb]
              rw [e]
              exact p8
            · intro hb B7 H7 g7
              have s7 := s6.trans g7.bb
              refine ws_one (ws_if (t := decide (0 ≤ (plAt st i).1) && (decide ((plAt st i).2 = 0) && isKept lat i st.1)) (xt_w (xw_and (xt_cmp c_ge (x_ixT (x_ixT (x_var 5 rfl (Dq.up s7 _ _ cu2)) (x_var 7 rfl (Dq.up s7 _ _ ct1)) hpl) x_int rfl) x_int) fun _ => xw_and (xt_cmp (c_eqI (un64 hr)) (x_ixT (x_ixT (x_var 5 rfl (Dq.up s7 _ _ cu2)) (x_var 7 rfl (Dq.up s7 _ _ ct1)) hpl) x_int rfl) x_int) fun _ => xw_and1 (xt_v
                (x_call (y := (lat, i, st.1)) (dn28 T) hr rfl (xa_cons (P0 := DD K _) (PL := DDs K [_, _]) (x_var 3 rfl (Dq.up s7 _ _ c4)) (xd_cons (x_var 7 rfl (Dq.up s7 _ _ ct1)) (xd_cons (x_var 4 rfl (Dq.up s7 _ _ cu1)) xd_nil)) (fun _ _ _ _ a b => ⟨hla, .cons a b⟩)))))) g7.bh ?_ ?_)
              · intro hb2 B8 H8 g8
                refine ws_one (ws_set (P := DD K (.list [.int (-1)])) 9 (x_lst (xd_cons (x_neg x_int) xd_nil)) g8.bh (fun rv B9 H9 g9 p9 => ⟨rv, B9, rfl, ((g6.trans g7).trans g8).trans g9, ?_⟩) (hN := sc27.nd))
                simp only [Bool.and_eq_true, decide_eq_true_eq, Bool.and_eq_false_iff, decide_eq_false_iff_not] at hb hb2 hc
                have e : rowOf hd st lat i sh = [-1] := by
                  unfold rowOf
                  rw [if_pos hc, if_neg (fun z => hb.elim (fun k => k z.1) fun k => k z.2), if_pos hb2]
                rw [e]
                exact p9
              · intro hb2 B8 H8 g8
                refine ws_nil ⟨rv, B8, rfl, (g6.trans g7).trans g8, ?_⟩
                have e : rowOf hd st lat i sh = [] := by
                  unfold rowOf
                  split
                  · rw [if_neg, if_neg]
                    · intro z
                      simp [z.1, z.2.1, z.2.2] at hb2
                    · intro z
                      simp [z.1, z.2] at hb
                  · rfl
                rw [e]
                exact Dq.up ((g6.bb.trans g7.bb).trans g8.bb) _ _ p5
          · intro hc B6 H6 g6
            refine ws_nil ⟨rv, B6, rfl, g6, ?_⟩
            have e : rowOf hd st lat i sh = [] := by
              unfold rowOf
              rw [if_neg (of_decide_eq_false hc)]
            rw [e]
            exact Dq.up g6.bb _ _ p5
        · rintro σ6 H6 ⟨rv2, B6, rfl, g6, p6⟩
          refine ws_one (ws_accApp (acc5.step g6) hF (fun C _ => x_var 6 rfl rfl) (x_var 9 rfl p6) ?_ fun B7 H7 s7 a7 => ⟨B7, ⟨_, _, _, rfl⟩, ?_, (((sB.trans g4.bb).trans g5.bb).trans g6.bb).trans s7⟩)
          · rw [List.length_map, List.length_take, line_big]
            have := ok.sn
            omega
          · rw [List.take_add_one, erow, List.map_append]
            exact a7
      · rintro σ' B' H' ⟨⟨x7, x8, x9, rfl⟩, ac, sB⟩
        obtain ⟨B4, g4, p4, _⟩ := ac.done hF
        refine ws_one (ws_ret (P := DD K _) (x_var 6 rfl p4) g4.bh fun v' B5 H5 g5 p5 => ?_)
        refine q v' B5 H5 ((g12.trans g4).trans g5) ?_
        rw [List.take_of_length_le (by unfold choicesOf; rw [List.length_map]; exact Nat.le_refl _)] at p5
        exact p5
end
end TW
/-! W3: is_let, cost_in, after_moves. -/
namespace TW
open PySem PySem.Spec PyProof.Rows L2
section
variable {P : Program} {w : World} {K : PySem.W.Frag} {mg : Str → Option Value} {base : Heap}
theorem c_neI {X : Cx} {i j : Int} (hu : X.A.units + 64 < cLine) : CmpOk X .NotEq (.int i) (.int j) (!decide (i = j)) := by
  have z := c_ne (X := X) (d1 := .int i) (d2 := .int j) hu rfl rfl
  have e : PyData.eqv (.int i) (.int j) = decide (i = j) := by
    simp [PyData.eqv]
    rfl
  rw [e] at z
  exact z
theorem isSome_if {α : Type} (p : Prop) [Decidable p] (x : α) : (if p then some x else none).isSome = decide p := by
  by_cases hp : p <;> simp [hp]
def MvOk (ships : List Ship) (m : Mv) : Prop := m.length ≤ 100 ∧ ∀ p ∈ m, 0 ≤ p.1 ∧ p.1 < (ships.length : Int)
def A29 (K : PySem.W.Frag) (y : Harb × List Ship × Mv) (B : Hp) (vs : List V) : Prop := (MvOk y.2.1 y.2.2) ∧ DqAll K B vs [eHarb y.1, eShips y.2.1, ePls y.2.2]
theorem dn29 (T : Txt K mg) : Dn P w K mg base CX0 1 "is_let" ["harbour", "ships", "moves"] (SpP (A29 K) fun y => DD K (.bool (isLet y.1 y.2.1 y.2.2))) :=
  dn_of T.f29 sc29 (fun _ _ _ _ _ _ us hl => match us, hl with | [_, _, _], _ => rfl) (fun y B vs h => h.2.length) fun f cdv A0 outer s H vs E y B Q hr sb ha q => by
    obtain ⟨hd, ships, m⟩ := y
    obtain ⟨mo, hv⟩ := ha
    change MvOk ships m at mo
    obtain ⟨v1, v2, v3, rfl, r1, r2, r3⟩ := inv3 hv
    have lm : m.length < sizeLine := by
      rw [line_big]
      have := mo.1
      omega
    refine ws_cons (ws_setLc (l := m) (enc := ePair) (enc' := .int) (own := o29_0) 3 (xi_tup (x_var 2 rfl r3)) (fun p => if 0 ≤ p.2 then some p.2 else none) ?_ sb (fun bv B1 H1 g1 p1 => ?_) lm rfl sc29.nd bk29_0 rfl)
    · intro i a v B' ea sb' hd
      obtain ⟨l, u1, u2, rfl, hq, q1, q2⟩ := tup2 hd
      apply lc_turn
      · rintro XB ⟨_, _, _, _, _, rfl⟩
        refine ⟨xg_tup rfl hq (xgs_cons (xg_name 4 sc29.nd) (xgs_cons (xg_name 5 sc29.nd) xgs_nil)), xts_one (XT.is (xt_cmp c_ge (x_var 5 rfl q2) x_int) ?_), fun r hr => ?_⟩
        · rw [isSome_if]
        · obtain ⟨_, rfl⟩ : _ ∧ a.2 = r := by simpa using hr
          exact x_var 5 rfl q2
      · rfl
    · generalize hbs : m.filterMap (fun p => if 0 ≤ p.2 then some p.2 else none) = bs at p1
      have lb : bs.length ≤ m.length := by
        rw [← hbs]
        exact List.length_filterMap_le ..
      have r1' := Dq.up g1.bb _ _ r1
      have r2' := Dq.up g1.bb _ _ r2
      have r3' := Dq.up g1.bb _ _ r3
      have elb : ((bs.map PyData.int).length : Int) = (bs.length : Int) := by rw [List.length_map]
      have elm : ((m.map ePair).length : Int) = (m.length : Int) := by rw [List.length_map]
      refine ws_cons (ws_if (t := (!decide ((setLen bs : Int) = (bs.length : Int))) || decide (hd.pilots < (m.length : Int))) (xt_w (xw_or (xt_cmp (c_neI (un64 hr)) (x_lenSet rfl rfl T.b_len rfl T.b_set (x_var 3 rfl p1) (by have := mo.1; omega)) (elb ▸ x_lenL rfl T.b_len (x_var 3 rfl p1))) fun _ => xw_or1 (xt_cmp c_gt (elm ▸ x_lenT rfl T.b_len (x_var 2 rfl r3')) (x_ixT (x_var 0 rfl r1') x_int rfl)))) g1.bh ?_ ?_)
      · intro ht B2 H2 g2
        refine ws_one (ws_ret (P := DD K (.bool false)) x_bl g2.bh fun v' B3 H3 g3 p3 => q v' B3 H3 ((g1.trans g2).trans g3) ?_)
        have e : isLet hd ships m = false := by
          unfold isLet
          simp only [hbs]
          rw [if_pos]
          simp only [Bool.or_eq_true, Bool.not_eq_true', decide_eq_false_iff_not, decide_eq_true_eq] at ht
          omega
        show Dq K B3 v' (.bool (isLet hd ships m))
        rw [e]
        exact p3
      · intro ht B2 H2 g2
        have e : isLet hd ships m = decide ((m.map fun p => (shipAt ships p.1).tugs).sum ≤ hd.tugs) := by
          unfold isLet
          simp only [hbs]
          rw [if_neg]
          simp only [Bool.or_eq_false_iff, Bool.not_eq_false', decide_eq_false_iff_not, decide_eq_true_eq] at ht
          omega
        refine ws_nil (ws_one (ws_ret (P := DD K (.bool (isLet hd ships m))) ?_ g2.bh fun v' B3 H3 g3 p3 => q v' B3 H3 ((g1.trans g2).trans g3) p3))
        rw [e]
        have s2 := g2.bb
        refine x_cmp c_le (x_sum rfl rfl T.b_sum ?_) (x_ixT (x_var 0 rfl (Dq.up s2 _ _ r1')) x_int rfl)
        refine x_lcM (l := m) (enc := ePair) (own := o29_1) _ (xi_tup (x_var 2 rfl (Dq.up s2 _ _ r3'))) ?_ lm rfl sc29.nd bk29_1
        intro i a v B' ea sb' hd
        obtain ⟨l, u1, u2, rfl, hq, q1, q2⟩ := tup2 hd
        have hin := mo.2 a (List.mem_of_getElem? ea)
        apply lc_map
        · rintro XB ⟨_, _, _, _, _, rfl⟩
          exact ⟨xg_tup rfl hq (xgs_cons (xg_name 4 sc29.nd) (xgs_cons (xg_name 5 sc29.nd) xgs_nil)), x_ixT (x_ixL (x_var 1 rfl (Dq.up (s2.trans sb') _ _ r2')) (x_var 4 rfl q1) (atI_map (d := default) hin.1 hin.2)) x_int rfl⟩
        · rfl
theorem zipIdx_at {α : Type} {l : List α} {i n : Nat} {a : α} (h : l.zipIdx[i]? = some (a, n)) : l[i]? = some a ∧ i = n := by
  rw [List.getElem?_zipIdx] at h
  cases hz : l[i]? with
  | none => rw [hz] at h; cases h
  | some z =>
    rw [hz] at h
    simp at h
    exact ⟨by rw [h.1], h.2⟩
theorem sum_take {l : List Int} {i : Nat} {x : Int} (h : l[i]? = some x) : (l.take (i + 1)).sum = (l.take i).sum + x := by
  rw [List.take_add_one, h, List.sum_append]
  simp
def cosF (ships : List Ship) (st : Sta) (m : Mv) (p : Ship × Nat) : Int := if (p.2 : Int) ∈ m.map (·.1) then 0 else if plAt st p.2 = SEA ∧ p.1.ready ≤ st.1 then p.1.sea else if 0 ≤ (plAt st p.2).1 ∧ (plAt st p.2).2 = 0 then p.1.lie else 0
def A31 (K : PySem.W.Frag) (y : List Ship × Sta × Mv) (B : Hp) (vs : List V) : Prop := (y.1.length ≤ 2 ∧ y.2.1.2.length = y.1.length ∧ y.2.2.length ≤ 100) ∧ DqAll K B vs [eShips y.1, eSta y.2.1, ePls y.2.2]
theorem dn31 (T : Txt K mg) : Dn P w K mg base CX0 1 "cost_in" ["ships", "state", "moves"] (SpP (A31 K) fun y => DD K (.int (costIn y.1 y.2.1 y.2.2))) :=
  dn_of T.f31 sc31 (fun _ _ _ _ _ _ us hl => match us, hl with | [_, _, _], _ => rfl) (fun y B vs h => h.2.length) fun f cdv A0 outer s H vs E y B Q hr sb ha q => by
    obtain ⟨ships, st, m⟩ := y
    obtain ⟨⟨sn, pl, lm⟩, hv⟩ := ha
    change ships.length ≤ 2 at sn
    change st.2.length = ships.length at pl
    change m.length ≤ 100 at lm
    obtain ⟨v1, v2, v3, rfl, r1, r2, r3⟩ := inv3 hv
    obtain ⟨a, u1, u2, rfl, hq, q1, q2⟩ := tup2 r2
    refine ws_cons (ws_asg (P := Is (.ref a)) (x_var 1 rfl rfl) sb fun v B1 H1 g1 p1 => ?_)
    obtain rfl : v = .ref a := p1
    refine ⟨_, xg_tup rfl (Same.seqT g1.bb hq) (xgs_cons (xg_name 3 sc31.nd) (xgs_cons (xg_name 4 sc31.nd) xgs_nil)), ?_⟩
    refine ws_cons (ws_setLc (l := m) (enc := ePair) (enc' := .int) (own := o31_0) 6 (xi_tup (x_var 2 rfl (Dq.up g1.bb _ _ r3))) (fun p => some p.1) ?_ g1.bh (fun mv B2 H2 g2 p2 => ?_) (by rw [line_big]; omega) rfl sc31.nd bk31_0 rfl)
    · intro i p v B' ea sb' hd
      obtain ⟨l, w1, w2, rfl, hq', t1, t2⟩ := tup2 hd
      apply lc_map
      · rintro XB ⟨_, _, _, _, _, rfl⟩
        exact ⟨xg_tup rfl hq' (xgs_cons (xg_name 5 sc31.nd) (xgs_cons (xg_name 9 sc31.nd) xgs_nil)), x_var 5 rfl t1⟩
      · rfl
    · rw [fm_map] at p2
      refine ws_cons (ws_set (P := Is (.int 0)) 7 (fun H s Q k => x_int (B := B2) H s Q fun v B' H' g pv => k v B' H' g (Dq.int_v pv)) g2.bh (fun cv B3 H3 g3 p3 => ?_) (hN := sc31.nd))
      obtain rfl : cv = .int 0 := p3
      have s3 := (g1.bb.trans g2.bb).trans g3.bb
      have g13 := (g1.trans g2).trans g3
      have r1' := Dq.up s3 _ _ r1
      have q1' := Dq.up s3 _ _ q1
      have q2' := Dq.up s3 _ _ q2
      have p2' := Dq.up g3.bb _ _ p2
      refine ws_cons (ws_forB (l := ships.zipIdx) (enc := fun p => .tuple [.int (p.2 : Int), eShip p.1]) rfl ?_ g3.bh fun B4 H4 g4 => ?_)
      · rw [← enD_map]
        exact xi_enum rfl T.b_enumerate (x_var 0 rfl r1')
      · refine ⟨fun i σ' B' H' => (∃ x5 x8 x9, σ' = [some v1, some (.ref a), some v3, some u1, some u2, x5, some mv, some (.int (((ships.zipIdx.map (cosF ships st m)).take i).sum)), x8, x9]) ∧ Gr B3 H3 B' H' ∧ Same B4 B',
          ⟨⟨_, _, _, rfl⟩, g4, .refl _⟩, fun i σ' B' H' h => ⟨h.2.2, h.2.1.bh⟩, ?_, ?_⟩
        · rintro i ⟨sh, n⟩ v σ' B' H' B5 H5 ea ⟨⟨x5, x8, x9, rfl⟩, gg, sB⟩ g5 dv
          obtain ⟨b, w1, w2, rfl, hq', t1, t2⟩ := tup2 dv
          obtain ⟨e1, rfl⟩ := zipIdx_at ea
          have hin : i < ships.length := (List.getElem?_eq_some_iff.mp e1).1
          have hil : i < st.2.length := by rw [pl]; exact hin
          have g35 := gg.trans g5
          have s5 := g35.bb
          have ec : (ships.zipIdx.map (cosF ships st m))[i]? = some (cosF ships st m (sh, i)) := by
            rw [List.getElem?_map, ea]
            rfl
          have et := sum_take ec
          have cu1 : Dq K B5 u1 (.int st.1) := Dq.up s5 _ _ q1'
          have cu2 : Dq K B5 u2 (ePls st.2) := Dq.up s5 _ _ q2'
          have cp2 := Dq.up s5 _ _ p2'
          have hpl : atI (st.2.map ePair) (i : Int) = some (ePair (plAt st i)) := plAt_eq hil
          refine ⟨_, xg_tup rfl hq' (xgs_cons (xg_name 5 sc31.nd) (xgs_cons (xg_name 8 sc31.nd) xgs_nil)), ?_⟩
          have sBB : Same B4 B5 := sB.trans g5.bb
          refine ws_cons (ws_if (t := decide ((i : Int) ∈ m.map Prod.fst)) (xt_cmp (c_in (ns := m.map Prod.fst)) (x_var 5 rfl t1) (x_var 6 rfl cp2)) g5.bh ?_ ?_)
          · intro hc B6 H6 g6
            have e0 : cosF ships st m (sh, i) = 0 := by
              unfold cosF
              rw [if_pos (of_decide_eq_true hc)]
            refine ws_one (ws_cont ⟨B6, ⟨some w1, some w2, x9, ?_⟩, g35.trans g6, sBB.trans g6.bb⟩)
            rw [et, e0, Int.add_zero]
            rfl
          · intro hc B6 H6 g6
            have s6 := g6.bb
            have hc' := of_decide_eq_false hc
            refine ws_nil (ws_one (ws_if (t := decide (plAt st i = SEA) && decide (sh.ready ≤ st.1)) (xt_w (xw_and (xt_cmp (c_eqP (un64 hr)) (x_ixT (x_var 4 rfl (Dq.up s6 _ _ cu2)) (x_var 5 rfl (Dq.up s6 _ _ t1)) hpl) (x_con T.c_SEA_best rfl)) fun _ => xw_and1 (xt_cmp c_le (x_ixT (x_var 8 rfl (Dq.up s6 _ _ t2)) x_int rfl) (x_var 3 rfl (Dq.up s6 _ _ cu1))))) g6.bh ?_ ?_))
            · intro hb B7 H7 g7
              have s7 := s6.trans g7.bb
              simp only [Bool.and_eq_true, decide_eq_true_eq] at hb
              have e0 : cosF ships st m (sh, i) = sh.sea := by
                unfold cosF
                rw [if_neg hc', if_pos hb]
              refine ws_one (ws_aug 7 ip_add rfl (x_ixT (x_var 8 rfl (Dq.up s7 _ _ t2)) x_int rfl) g7.bh (fun B8 H8 g8 => ⟨B8, ⟨some w1, some w2, x9, ?_⟩, ((g35.trans g6).trans g7).trans g8, ((sBB.trans s6).trans g7.bb).trans g8.bb⟩) (hN := sc31.nd))
              rw [et, e0]
              rfl
            · intro hb B7 H7 g7
              have s7 := s6.trans g7.bb
              refine ws_one (ws_if (t := decide (0 ≤ (plAt st i).1) && decide ((plAt st i).2 = 0)) (xt_w (xw_and (xt_cmp c_ge (x_ixT (x_ixT (x_var 4 rfl (Dq.up s7 _ _ cu2)) (x_var 5 rfl (Dq.up s7 _ _ t1)) hpl) x_int rfl) x_int) fun _ => xw_and1 (xt_cmp (c_eqI (un64 hr)) (x_ixT (x_ixT (x_var 4 rfl (Dq.up s7 _ _ cu2)) (x_var 5 rfl (Dq.up s7 _ _ t1)) hpl) x_int rfl) x_int))) g7.bh ?_ ?_)
              · intro hb2 B8 H8 g8
                have s8 := s7.trans g8.bb
                simp only [Bool.and_eq_true, decide_eq_true_eq, Bool.and_eq_false_iff, decide_eq_false_iff_not] at hb hb2
                have e0 : cosF ships st m (sh, i) = sh.lie := by
                  unfold cosF
                  rw [if_neg hc', if_neg (fun z => hb.elim (fun k => k z.1) fun k => k z.2), if_pos hb2]
                refine ws_one (ws_aug 7 ip_add rfl (x_ixT (x_var 8 rfl (Dq.up s8 _ _ t2)) x_int rfl) g8.bh (fun B9 H9 g9 => ⟨B9, ⟨some w1, some w2, x9, ?_⟩, (((g35.trans g6).trans g7).trans g8).trans g9, (((sBB.trans s6).trans g7.bb).trans g8.bb).trans g9.bb⟩) (hN := sc31.nd))
                rw [et, e0]
                rfl
              · intro hb2 B8 H8 g8
                simp only [Bool.and_eq_false_iff, decide_eq_false_iff_not] at hb hb2
                have e0 : cosF ships st m (sh, i) = 0 := by
                  unfold cosF
                  rw [if_neg hc', if_neg (fun z => hb.elim (fun k => k z.1) fun k => k z.2), if_neg (fun z => hb2.elim (fun k => k z.1) fun k => k z.2)]
                refine ws_nil ⟨B8, ⟨some w1, some w2, x9, ?_⟩, ((g35.trans g6).trans g7).trans g8, ((sBB.trans s6).trans g7.bb).trans g8.bb⟩
                rw [et, e0, Int.add_zero]
                rfl
        · rintro σ' B' H' ⟨⟨x5, x8, x9, rfl⟩, gg, sB⟩
          refine ws_one (ws_ret (P := DD K _) (x_var 7 rfl (Dq.int _)) gg.bh fun v' B5 H5 g5 p5 => q v' B5 H5 ((g13.trans gg).trans g5) ?_)
          rw [List.take_of_length_le (by rw [List.length_map]; exact Nat.le_refl _)] at p5
          exact p5
def putMv (ships : List Ship) (ps : List (Int × Int)) (p : Int × Int) : List (Int × Int) := ps.set p.1.toNat (landed ships p)
theorem putMv_len (ships : List Ship) : ∀ (m : Mv) (ps : List (Int × Int)), (m.foldl (putMv ships) ps).length = ps.length
  | [], _ => rfl
  | p :: m, ps => by
    rw [List.foldl_cons, putMv_len ships m]
    exact List.length_set ..
theorem take_foldl {α β : Type} {f : β → α → β} {l : List α} {i : Nat} {a : α} {b : β} (h : l[i]? = some a) : (l.take (i + 1)).foldl f b = f ((l.take i).foldl f b) a := by
  rw [List.take_add_one, h, List.foldl_append]
  rfl
def A32 (K : PySem.W.Frag) (y : List Ship × Sta × Mv) (B : Hp) (vs : List V) : Prop := (y.1.length ≤ 2 ∧ y.2.1.2.length = y.1.length ∧ MvOk y.1 y.2.2) ∧ DqAll K B vs [eShips y.1, eSta y.2.1, ePls y.2.2]
theorem dn32 (T : Txt K mg) : Dn P w K mg base CX0 1 "after_moves" ["ships", "state", "moves"] (SpP (A32 K) fun y => DD K (eSta (afterMoves y.1 y.2.1 y.2.2))) :=
  dn_of T.f32 sc32 (fun _ _ _ _ _ _ us hl => match us, hl with | [_, _, _], _ => rfl) (fun y B vs h => h.2.length) fun f cdv A0 outer s H vs E y B Q hr sb ha q => by
    obtain ⟨ships, st, m⟩ := y
    obtain ⟨⟨sn, pl, mo⟩, hv⟩ := ha
    change ships.length ≤ 2 at sn
    change st.2.length = ships.length at pl
    change MvOk ships m at mo
    obtain ⟨v1, v2, v3, rfl, r1, r2, r3⟩ := inv3 hv
    obtain ⟨a, u1, u2, rfl, hq, q1, q2⟩ := tup2 r2
    refine ws_cons (ws_asg (P := Is (.ref a)) (x_var 1 rfl rfl) sb fun v B1 H1 g1 p1 => ?_)
    obtain rfl : v = .ref a := p1
    refine ⟨_, xg_tup rfl (Same.seqT g1.bb hq) (xgs_cons (xg_name 3 sc32.nd) (xgs_cons (xg_name 4 sc32.nd) xgs_nil)), ?_⟩
    refine ws_cons (ws_newL 5 xd_nil g1.bh (fun F vs B2 H2 g2 p2 hF => ?_) (hN := sc32.nd))
    obtain rfl := inv0 p2
    have g12 := g1.trans g2
    have r1' := Dq.up g12.bb _ _ r1
    have r3' := Dq.up g12.bb _ _ r3
    have q1' := Dq.up g12.bb _ _ q1
    have q2' := Dq.up g12.bb _ _ q2
    have A0' : Acc K B2 H2 F [] B2 (upd H2 F (.lst [])) := Acc.new g2.bh hF .nil
    refine ws_cons (ws_forB (l := st.2.zipIdx) (enc := fun p => .tuple [.int (p.2 : Int), ePair p.1]) rfl ?_ A0'.bh fun B3 H3 g3 => ?_)
    · rw [← enD_map]
      exact xi_enumT rfl T.b_enumerate (x_var 4 rfl q2')
    · refine ⟨fun i σ' B' H' => (∃ x6 x7 x8, σ' = [some v1, some (.ref a), some v3, some u1, some u2, some (.ref F), x6, x7, x8]) ∧ Acc K B2 H2 F (((st.2.map tick).take i).map ePair) B' H' ∧ Same B3 B',
        ⟨⟨_, _, _, rfl⟩, A0'.step g3, .refl _⟩, fun i σ' B' H' h => ⟨h.2.2, h.2.1.bh⟩, ?_, ?_⟩
      · rintro i ⟨p, n⟩ v σ' B' H' B4 H4 ea ⟨⟨x6, x7, x8, rfl⟩, ac, sB⟩ g4 dv
        obtain ⟨b, w1, w2, rfl, hq', t1, t2⟩ := tup2 dv
        obtain ⟨b2, w3, w4, rfl, hq2, t3, t4⟩ := tup2 t2
        obtain ⟨e1, rfl⟩ := zipIdx_at ea
        have hil : i < st.2.length := (List.getElem?_eq_some_iff.mp e1).1
        have et : (st.2.map tick)[i]? = some (tick p) := by
          rw [List.getElem?_map, e1]
          rfl
        have acc4 := ac.step g4
        refine ⟨_, xg_tup rfl hq' (xgs_cons (xg_name 6 sc32.nd) (xgs_cons (xg_tup rfl hq2 (xgs_cons (xg_name 7 sc32.nd) (xgs_cons (xg_name 8 sc32.nd) xgs_nil))) xgs_nil)), ?_⟩
        refine ws_cut (fun σ6 H6 => ∃ lv B6, σ6 = [some v1, some (.ref a), some v3, some u1, some u2, some (.ref F), some w1, some w3, some lv] ∧ Gr B4 H4 B6 H6 ∧ Dq K B6 lv (.int (tick p).2)) ?_ ?_
        · refine ws_if (t := decide (0 ≤ p.1)) (xt_cmp c_ge (x_var 7 rfl t3) x_int) g4.bh ?_ ?_
          · intro hc B6 H6 g6
            refine ws_one (ws_set (P := DD K (.int (if p.2 - 1 > 0 then p.2 - 1 else 0))) 8 (x_max2 rfl rfl T.b_max x_int (x_sub (x_var 8 rfl (Dq.up g6.bb _ _ t4)) x_int)) g6.bh (fun lv B7 H7 g7 p7 => ⟨lv, B7, rfl, g6.trans g7, ?_⟩) (hN := sc32.nd))
            unfold tick
            rw [if_pos (of_decide_eq_true hc)]
            exact p7
          · intro hc B6 H6 g6
            refine ws_nil ⟨w4, B6, rfl, g6, ?_⟩
            unfold tick
            rw [if_neg (of_decide_eq_false hc)]
            exact Dq.up g6.bb _ _ t4
        · rintro σ6 H6 ⟨lv, B6, rfl, g6, p6⟩
          refine ws_one (ws_accApp (d := ePair (tick p)) (acc4.step g6) hF (fun C _ => x_var 5 rfl rfl) (x_tup (xd_cons (x_var 7 rfl (Dq.up g6.bb _ _ t3)) (xd_cons (x_var 8 rfl p6) xd_nil))) ?_ fun B7 H7 s7 a7 => ⟨B7, ⟨_, _, _, rfl⟩, ?_, ((sB.trans g4.bb).trans g6.bb).trans s7⟩)
          · rw [List.length_map, List.length_take, List.length_map, line_big]
            omega
          · rw [List.take_add_one, et, List.map_append]
            exact a7
      · rintro σ' B' H' ⟨⟨x6, x7, x8, rfl⟩, ac, sB⟩
        rw [List.take_of_length_le (by rw [List.length_map, List.length_zipIdx]; exact Nat.le_refl _)] at ac
        have s3' := ac.gr.bb
        refine ws_cons (ws_forB (l := m) (enc := ePair) rfl (xi_tup (x_var 2 rfl (Dq.up s3' _ _ r3'))) ac.bh fun B4 H4 g4 => ?_)
        refine ⟨fun i σ' B' H' => (∃ x6 x7 x8, σ' = [some v1, some (.ref a), some v3, some u1, some u2, some (.ref F), x6, x7, x8]) ∧ Acc K B2 H2 F (((m.take i).foldl (putMv ships) (st.2.map tick)).map ePair) B' H' ∧ Same B4 B',
          ⟨⟨_, _, _, rfl⟩, ac.step g4, .refl _⟩, fun i σ' B' H' h => ⟨h.2.2, h.2.1.bh⟩, ?_, ?_⟩
        · rintro i p v σ' B' H' B5 H5 ea ⟨⟨x6, x7, x8, rfl⟩, ac, sB⟩ g5 dv
          obtain ⟨b, w1, w2, rfl, hq', t1, t2⟩ := tup2 dv
          have hin := mo.2 p (List.mem_of_getElem? ea)
          have ac5 := ac.step g5
          have s5 := ac5.gr.bb
          refine ⟨_, xg_tup rfl hq' (xgs_cons (xg_name 6 sc32.nd) (xgs_cons (xg_name 7 sc32.nd) xgs_nil)), ?_⟩
          refine ws_one (ws_accPut (d := ePair (landed ships p)) (n := p.1) ac5 hF (x_if (t := decide (p.2 = -1)) (xt_cmp (c_eqI (un64 hr)) (x_var 7 rfl t2) (x_neg x_int)) (fun hc => ?_) fun hc => ?_) (fun C _ => x_var 5 rfl rfl) (x_var 6 rfl t1) hin.1 ?_ fun B6 H6 s6 a6 => ⟨B6, ⟨_, _, _, rfl⟩, ?_, (sB.trans g5.bb).trans s6⟩)
          · have e : landed ships p = GONE := by
              unfold landed
              rw [if_pos (of_decide_eq_true hc)]
            rw [e]
            exact x_con T.c_GONE_best rfl
          · have e : landed ships p = (p.2, (shipAt ships p.1).stay) := by
              unfold landed
              rw [if_neg (of_decide_eq_false hc)]
            rw [e]
            exact x_tup (xd_cons (x_var 7 rfl t2) (xd_cons (x_ixT (x_ixL (x_var 0 rfl (Dq.up s5 _ _ r1')) (x_var 6 rfl t1) (atI_map (d := default) hin.1 hin.2)) x_int rfl) xd_nil))
          · rw [List.length_map, putMv_len, List.length_map, pl]
            exact hin.2
          · rw [take_foldl ea]
            unfold putMv at a6 ⊢
            rw [List.map_set]
            exact a6
        · rintro σ' B' H' ⟨⟨x6, x7, x8, rfl⟩, ac, sB⟩
          obtain ⟨B5, g5, p5, s5⟩ := ac.done hF
          refine ws_one (ws_ret (P := DD K (eSta (afterMoves ships st m))) ?_ g5.bh fun v' B6 H6 g6 p6 => q v' B6 H6 ((g12.trans g5).trans g6) p6)
          rw [List.take_of_length_le (Nat.le_refl _)] at p5
          exact x_tup (xd_cons (x_add (x_var 3 rfl (Dq.up g5.bb _ _ q1')) x_int) (xd_cons (x_tupleOf rfl T.b_tuple (x_var 5 rfl p5)) xd_nil))
end
end TW
/-! W4: moves_in, ways_in. -/
namespace TW
open PySem PySem.Spec PyProof.Rows L2
theorem alike_pairs : ∀ a b : Mv, PySem.W.alikeAll (a.map ePair) (b.map ePair) = true
  | [], _ => by
    rw [List.map_nil, PySem.W.alikeAll]
  | _ :: _, [] => by
    rw [List.map_cons, List.map_nil, PySem.W.alikeAll]
  | p :: a, q :: b => by
    rw [List.map_cons, List.map_cons, PySem.W.alikeAll, alike_pairs a b]
    simp [ePair, PySem.W.alike, PySem.W.alikeAll]
theorem alike_mv (a b : Mv) : PySem.W.alike (ePls a) (ePls b) = true := by
  unfold ePls
  rw [PySem.W.alike]
  exact alike_pairs a b
theorem depth_mv (a : Mv) : PyData.depthAll (a.map ePair) ≤ 1 := by
  induction a with
  | nil => rw [List.map_nil, PyData.depthAll]; omega
  | cons p a ih =>
    rw [List.map_cons, PyData.depthAll]
    have e : (ePair p).depth = 1 := by simp [ePair, PyData.depth, PyData.depthAll]
    omega
theorem sortOk_mv {X : Cx} {A : Around} {fr : List Mv} (hu : A.units + 8 < cLine) : SortOk X A (([] :: fr).map ePls) := by
  have e : ([] :: fr).map ePls = PyData.tuple [] :: (fr.map fun m => m.map ePair).map .tuple := by
    rw [List.map_cons, List.map_map]
    rfl
  rw [e]
  refine sortOk_tups (e ▸ PySem.W.AllAlike.of alike_mv) fun ds hds => ?_
  have : PyData.depthAll ds ≤ 1 := by
    rcases List.mem_cons.mp hds with rfl | h
    · rw [PyData.depthAll]; omega
    · obtain ⟨m, _, rfl⟩ := List.mem_map.mp h
      exact depth_mv m
  rw [PyData.depth]
  omega
/-! ### how large -/
structure Mvs (i : Nat) (f : List Mv) : Prop where
  hd : ∃ r, f = [] :: r
  len : f.length ≤ 3 ^ i
  mv : ∀ m ∈ f, m.length ≤ i ∧ ∀ p ∈ m, 0 ≤ p.1 ∧ p.1 < (i : Int)
theorem Mvs.start : Mvs 0 [[]] := ⟨⟨[], rfl⟩, by decide, fun m h => by
  rcases List.mem_singleton.mp h with rfl
  exact ⟨Nat.le_refl _, fun p h => (nomatch h)⟩⟩
def moreRaw (n : Nat) (row : List Int) (found : List Mv) : List Mv := found.flatMap fun m => row.map fun b => m ++ [((n : Int), b)]
theorem moreRaw_len {n : Nat} {row : List Int} (h : row.length ≤ 2) : ∀ found : List Mv, (moreRaw n row found).length ≤ 2 * found.length
  | [] => Nat.le_refl _
  | m :: f => by
    have ih := moreRaw_len (n := n) h f
    unfold moreRaw at ih ⊢
    rw [List.flatMap_cons, List.length_append, List.length_map, List.length_cons]
    omega
theorem moreRaw_mem {n : Nat} {row : List Int} {f : List Mv} (h : Mvs n f) {m : Mv} (hm : m ∈ moreRaw n row f) : m.length ≤ n + 1 ∧ ∀ p ∈ m, 0 ≤ p.1 ∧ p.1 < ((n + 1 : Nat) : Int) := by
  unfold moreRaw at hm
  obtain ⟨m', h1, h2⟩ := List.mem_flatMap.mp hm
  obtain ⟨b, _, rfl⟩ := List.mem_map.mp h2
  obtain ⟨k1, k2⟩ := h.mv m' h1
  refine ⟨by rw [List.length_append]; simp; omega, fun p hp => ?_⟩
  rcases List.mem_append.mp hp with hp | hp
  · have := k2 p hp
    omega
  · rcases List.mem_singleton.mp hp with rfl
    simp
    omega
theorem Mvs.step {h : Harb} {ships : List Ship} {n : Nat} {row : List Int} {f : List Mv} (m : Mvs n f) (hr : row.length ≤ 2) : Mvs (n + 1) (moreOf h ships n row f) := by
  have l1 : ((moreRaw n row f).filter (isLet h ships)).length ≤ (moreRaw n row f).length := List.length_filter_le ..
  have l2 := moreRaw_len (n := n) hr f
  refine ⟨?_, ?_, fun x hx => ?_⟩
  · obtain ⟨r, rfl⟩ := m.hd
    exact ⟨_, rfl⟩
  · show (f ++ (moreRaw n row f).filter (isLet h ships)).length ≤ _
    rw [List.length_append, Nat.pow_succ]
    have := m.len
    omega
  · rcases List.mem_append.mp (show x ∈ f ++ (moreRaw n row f).filter (isLet h ships) from hx) with hx | hx
    · obtain ⟨k1, k2⟩ := m.mv x hx
      exact ⟨by omega, fun p hp => by have := k2 p hp; omega⟩
    · exact moreRaw_mem m (List.mem_filter.mp hx).1
theorem rowOf_le {h : Harb} {st : Sta} {lat : Lat} {n : Nat} {s : Ship} (hb : h.berths.length ≤ 2) : (rowOf h st lat n s).length ≤ 2 := by
  unfold rowOf
  have := berthsFor_le h s st.2
  split
  · split
    · omega
    · split <;> simp
  · simp
theorem mvs_at {h : Harb} {ships : List Ship} {l : List (List Int)} (hl : ∀ r ∈ l, r.length ≤ 2) : ∀ i, i ≤ l.length → Mvs i ((l.zipIdx.take i).foldl (fun f p => moreOf h ships p.2 p.1 f) [[]])
  | 0, _ => Mvs.start
  | i + 1, hi => by
    have hlt : i < l.length := hi
    have e : l.zipIdx[i]? = some (l[i], i) := by
      rw [List.getElem?_zipIdx]
      simp [hlt]
    rw [take_foldl e]
    exact (mvs_at hl i (Nat.le_of_lt hlt)).step (hl _ (List.getElem_mem hlt))
theorem choices_len (h : Harb) (ships : List Ship) (st : Sta) (lat : Lat) : (choicesOf h ships st lat).length = ships.length := by
  unfold choicesOf
  rw [List.length_map, List.length_zipIdx]
theorem choices_row {h : Harb} {ships : List Ship} {st : Sta} {lat : Lat} (hb : h.berths.length ≤ 2) : ∀ r ∈ choicesOf h ships st lat, r.length ≤ 2 := fun r hr => by
  unfold choicesOf at hr
  obtain ⟨p, _, rfl⟩ := List.mem_map.mp hr
  exact rowOf_le hb
theorem mvs_go {h : Harb} {ships : List Ship} {st : Sta} {lat : Lat} (hb : h.berths.length ≤ 2) : Mvs ships.length (movesGo h ships (choicesOf h ships st lat).zipIdx) := by
  have z := mvs_at (h := h) (ships := ships) (choices_row (h := h) (ships := ships) (st := st) (lat := lat) hb) _ (Nat.le_refl _)
  rw [choices_len, List.take_of_length_le (by rw [List.length_zipIdx, choices_len]; exact Nat.le_refl _)] at z
  exact z
theorem movesIn_ok {h : Harb} {ships : List Ship} {st : Sta} {lat : Lat} (hb : h.berths.length ≤ 2) (sn : ships.length ≤ 2) : (movesIn h ships st lat).length ≤ 9 ∧ ∀ m ∈ movesIn h ships st lat, m.length ≤ 2 ∧ MvOk ships m := by
  unfold movesIn
  split
  · exact ⟨by decide, fun m h => (nomatch h)⟩
  · have z := mvs_go (h := h) (ships := ships) (st := st) (lat := lat) hb
    refine ⟨?_, fun m hm => ?_⟩
    · rw [List.length_mergeSort]
      exact Nat.le_trans z.len (Nat.pow_le_pow_right (by decide) sn)
    · have := z.mv m (List.mem_mergeSort.mp hm)
      exact ⟨by omega, by omega, this.2⟩
section
variable {P : Program} {w : World} {K : PySem.W.Frag} {mg : Str → Option Value} {base : Heap}
def A30 (K : PySem.W.Frag) (y : Harb × List Ship × Sta × Lat) (B : Hp) (vs : List V) : Prop := (Ok y.1 y.2.1 y.2.2.1 ∧ y.2.2.2.length = y.2.1.length) ∧ DqAll K B vs [eHarb y.1, eShips y.2.1, eSta y.2.2.1, eProm y.2.2.2]
theorem dn30 (T : Txt K mg) : DnK P w K mg base CX0 3 "moves_in" ["harbour", "ships", "state", "latest"] 3 ["latest"] (SpP (A30 K) fun y => DD K (eMvs (movesIn y.1 y.2.1 y.2.2.1 y.2.2.2))) :=
  dnk_of 3 ["latest"] T.f30 sc30 (fun _ _ _ _ _ _ us ws hl h2 => match us, hl, ws, h2 with | [_, _, _], _, [_], _ => rfl) (fun y B vs h => h.2.length) fun f cdv A0 outer s H vs E y B Q hr sb ha q => by
    obtain ⟨hd, ships, st, lat⟩ := y
    obtain ⟨⟨ok, h1⟩, hv⟩ := ha
    change Ok hd ships st at ok
    change lat.length = ships.length at h1
    obtain ⟨v1, v2, v3, v4, rfl, r1, r2, r3, r4⟩ := inv4 hv
    have stl : st.2.length < 100 := by have := ok.pl; have := ok.sn; omega
    refine ws_cons (ws_if (t := decide (hd.last < st.1) || isEnd st.2) (xt_w (xw_or (xt_cmp c_gt (x_ixT (x_var 2 rfl r3) x_int rfl) (x_ixT (x_var 0 rfl r1) x_int rfl)) fun _ => xw_or1 (xt_v (x_call (y := st) (dn24 T) (hr.mono (by decide)) rfl (xa_cons (P0 := DD K _) (PL := DDs K []) (x_var 2 rfl r3) xd_nil (fun _ _ _ _ a b => ⟨stl, .cons a b⟩)))))) sb ?_ ?_)
    · intro hc B1 H1 g1
      refine ws_one (ws_ret (P := DD K (.list [])) (x_lst xd_nil) g1.bh fun v B2 H2 g2 p2 => q v B2 H2 (g1.trans g2) ?_)
      have e : movesIn hd ships st lat = [] := by
        unfold movesIn
        rw [if_pos (by simpa using hc)]
      show Dq K B2 v (eMvs (movesIn hd ships st lat))
      rw [e]
      exact p2
    · intro hc B1 H1 g1
      have e : movesIn hd ships st lat = (movesGo hd ships (choicesOf hd ships st lat).zipIdx).mergeSort mvLe := by
        unfold movesIn
        rw [if_neg (by simpa using hc)]
      have r1' := Dq.up g1.bb _ _ r1
      have r2' := Dq.up g1.bb _ _ r2
      have r3' := Dq.up g1.bb _ _ r3
      have r4' := Dq.up g1.bb _ _ r4
      refine ws_nil (ws_cons (ws_set (P := DD K (eMvs [[]])) 4 (x_lst (xd_cons (x_tup xd_nil) xd_nil)) g1.bh (fun fv B2 H2 g2 p2 => ?_) (hN := sc30.nd)))
      have s2 := g2.bb
      refine ws_cons (ws_forB (l := (choicesOf hd ships st lat).zipIdx) (enc := fun p => .tuple [.int (p.2 : Int), eInts p.1]) rfl ?_ g2.bh fun B3 H3 g3 => ?_)
      · rw [← enD_map]
        exact xi_enum rfl T.b_enumerate (x_call (y := (hd, ships, st, lat)) (dn27 T) hr rfl (xa_cons (P0 := DD K _) (PL := DDs K [_, _, _]) (x_var 0 rfl (Dq.up s2 _ _ r1')) (xd_cons (x_var 1 rfl (Dq.up s2 _ _ r2')) (xd_cons (x_var 2 rfl (Dq.up s2 _ _ r3')) (xd_cons (x_var 3 rfl (Dq.up s2 _ _ r4')) xd_nil))) (fun _ _ _ _ a b => ⟨⟨ok, h1⟩, .cons a b⟩)))
      · refine ⟨fun i σ' B' H' => (∃ fv x5 x6 x7 x8 x9, σ' = [some v1, some v2, some v3, some v4, some fv, x5, x6, x7, x8, x9] ∧ Dq K B' fv (eMvs (((choicesOf hd ships st lat).zipIdx.take i).foldl (fun f p => moreOf hd ships p.2 p.1 f) [[]]))) ∧ Gr B2 H2 B' H' ∧ Same B3 B',
          ⟨⟨fv, _, _, _, _, _, rfl, Dq.up g3.bb _ _ p2⟩, g3, .refl _⟩, fun i σ' B' H' h => ⟨h.2.2, h.2.1.bh⟩, ?_, ?_⟩
        · rintro i ⟨row, n⟩ v σ' B' H' B4 H4 ea ⟨⟨fv, x5, x6, x7, x8, x9, rfl, pf⟩, gg, sB⟩ g4 dv
          obtain ⟨b, w1, w2, rfl, hq', t1, t2⟩ := tup2 dv
          obtain ⟨e1, rfl⟩ := zipIdx_at ea
          have hrow : row.length ≤ 2 := choices_row ok.bn row (List.mem_of_getElem? e1)
          have hil : i < (choicesOf hd ships st lat).length := (List.getElem?_eq_some_iff.mp e1).1
          have hin : i < 2 := by
            have := ok.sn
            rw [choices_len] at hil
            omega
          have his : i < ships.length := by rw [choices_len] at hil; exact hil
          have et := take_foldl (f := fun f (p : List Int × Nat) => moreOf hd ships p.2 p.1 f) (b := [[]]) ea
          have hM := mvs_at (h := hd) (ships := ships) (choices_row (h := hd) (ships := ships) (st := st) (lat := lat) ok.bn) i (Nat.le_of_lt hil)
          generalize hf : ((choicesOf hd ships st lat).zipIdx.take i).foldl (fun f p => moreOf hd ships p.2 p.1 f) [[]] = fs at pf hM et
          have lfs : fs.length ≤ 9 := Nat.le_trans hM.len (Nat.le_trans (Nat.pow_le_pow_right (by decide) (Nat.le_of_lt hin)) (by decide))
          have g24 := gg.trans g4
          have c1 := Dq.up g24.bb _ _ (Dq.up s2 _ _ r1')
          have c2 := Dq.up g24.bb _ _ (Dq.up s2 _ _ r2')
          have pf4 := Dq.up g4.bb _ _ pf
          refine ⟨_, xg_tup rfl hq' (xgs_cons (xg_name 5 sc30.nd) (xgs_cons (xg_name 6 sc30.nd) xgs_nil)), ?_⟩
          refine ws_cons (ws_set (P := DD K (eMvs [])) 7 (x_lst xd_nil) g4.bh (fun mv B5 H5 g5 p5 => ?_) (hN := sc30.nd))
          refine ws_cons (ws_forB (l := fs) (enc := ePls) rfl (xi_list (x_var 4 rfl (Dq.up g5.bb _ _ pf4))) g5.bh fun B6 H6 g6 => ?_)
          refine ⟨fun j σ' B' H' => (∃ mv x8 x9, σ' = [some v1, some v2, some v3, some v4, some fv, some w1, some w2, some mv, x8, x9] ∧ Dq K B' mv (eMvs (moreRaw i row (fs.take j)))) ∧ Gr B5 H5 B' H' ∧ Same B6 B',
            ⟨⟨mv, _, _, rfl, Dq.up g6.bb _ _ p5⟩, g6, .refl _⟩, fun i σ' B' H' h => ⟨h.2.2, h.2.1.bh⟩, ?_, ?_⟩
          · rintro j m v σ' B' H' B7 H7 ej ⟨⟨mv, x8, x9, rfl, pm⟩, gj, sj⟩ g7 dm
            have g57 := gj.trans g7
            have s57 := g5.bb.trans g57.bb
            have ejt : moreRaw i row (fs.take (j + 1)) = moreRaw i row (fs.take j) ++ row.map fun b => m ++ [((i : Int), b)] := by
              unfold moreRaw
              rw [List.take_add_one, ej, List.flatMap_append]
              simp
            have lraw : (moreRaw i row (fs.take j)).length ≤ 18 := by
              have := moreRaw_len (n := i) hrow (fs.take j)
              have h2 : (fs.take j).length ≤ fs.length := by rw [List.length_take]; omega
              omega
            have lm : m.length ≤ 2 := by
              have := (hM.mv m (List.mem_of_getElem? ej)).1
              omega
            refine ⟨_, xg_name 8 sc30.nd, ?_⟩
            refine ws_one (ws_set (P := DD K (eMvs (moreRaw i row (fs.take (j + 1))))) 7 ?_ g7.bh (fun mv2 B8 H8 g8 p8 => ⟨B8, ⟨mv2, _, _, rfl, p8⟩, g57.trans g8, (sj.trans g7.bb).trans g8.bb⟩) (hN := sc30.nd))
            rw [ejt]
            unfold eMvs
            rw [List.map_append]
            refine x_cat (x_var 7 rfl (Dq.up g7.bb _ _ pm)) ?_ ?_
            · refine x_lcM (l := row) (enc := .int) (enc' := ePls) (own := o30_0) (fun b => m ++ [((i : Int), b)]) (xi_list (x_var 6 rfl (Dq.up s57 _ _ t2))) ?_ (by rw [line_big]; omega) rfl sc30.nd bk30_0
              intro k bb v B' ea sb' hd
              apply lc_map
              · rintro XB ⟨_, _, _, _, _, rfl⟩
                refine ⟨xg_name 9 sc30.nd, ?_⟩
                show XE _ _ _ _ (DD K (.tuple ((m ++ [((i : Int), bb)]).map ePair)))
                rw [List.map_append]
                refine x_catT (x_var 8 rfl (Dq.up sb' _ _ dm)) (x_tup (xd_cons (x_tup (xd_cons (x_var 5 rfl (Dq.up (s57.trans sb') _ _ t1)) (xd_cons (x_var 9 rfl hd) xd_nil))) xd_nil)) ?_
                rw [List.length_map, line_big]
                simp
                omega
              · rfl
            · rw [List.length_map, List.length_map, List.length_map, line_big]
              omega
          · rintro σ' B' H' ⟨⟨mv, x8, x9, rfl, pm⟩, gj, sj⟩
            rw [List.take_of_length_le (Nat.le_refl _)] at pm
            have s5j := g5.bb.trans gj.bb
            have lraw : (moreRaw i row fs).length ≤ 18 := by
              have := moreRaw_len (n := i) hrow fs
              omega
            refine ws_one (ws_set (P := DD K (eMvs (moreOf hd ships i row fs))) 4 ?_ gj.bh (fun fv2 B8 H8 g8 p8 => ⟨B8, ⟨fv2, _, _, _, _, _, rfl, by rw [et]; exact p8⟩, ((g24.trans g5).trans gj).trans g8, (((sB.trans g4.bb).trans g5.bb).trans gj.bb).trans g8.bb⟩) (hN := sc30.nd))
            show XE _ _ _ _ (DD K (.list ((fs ++ (moreRaw i row fs).filter (isLet hd ships)).map ePls)))
            rw [List.map_append]
            have ef : (moreRaw i row fs).filter (isLet hd ships) = (moreRaw i row fs).filterMap fun m => if isLet hd ships m = true then some m else none := by
              rw [← List.filterMap_eq_filter]
              congr 1
            refine x_cat (x_var 4 rfl (Dq.up s5j _ _ pf4)) ?_ ?_
            · rw [ef]
              refine x_lc (l := moreRaw i row fs) (enc := ePls) (enc' := ePls) (own := o30_1) ?_ (fun m => if isLet hd ships m = true then some m else none) ?_ (by rw [line_big]; omega) rfl sc30.nd bk30_1
              · exact xi_list (x_var 7 rfl pm)
              intro k m v B' ea sb' hm
              have hmv := moreRaw_mem hM (List.mem_of_getElem? ea)
              have mo : MvOk ships m := ⟨by omega, fun p hp => by have := hmv.2 p hp; omega⟩
              apply lc_turn
              · rintro XB ⟨_, _, _, _, _, rfl⟩
                refine ⟨xg_name 8 sc30.nd, xts_one (XT.is (xt_v (x_call (y := (hd, ships, m)) (dn29 T) (hr.mono (by decide)) rfl (xa_cons (P0 := DD K _) (PL := DDs K [_, _]) (x_var 0 rfl (Dq.up (s5j.trans sb') _ _ c1)) (xd_cons (x_var 1 rfl (Dq.up (s5j.trans sb') _ _ c2)) (xd_cons (x_var 8 rfl hm) xd_nil)) (fun _ _ _ _ a b => ⟨mo, .cons a b⟩)))) ?_), fun r hr' => ?_⟩
                · show isLet hd ships m = _
                  rw [isSome_if]
                  simp
                · obtain ⟨_, rfl⟩ : _ ∧ m = r := by simpa using hr'
                  exact x_var 8 rfl hm
              · rfl
            · rw [List.length_map, List.length_map, line_big]
              have : ((moreRaw i row fs).filter (isLet hd ships)).length ≤ (moreRaw i row fs).length := List.length_filter_le ..
              omega
        · rintro σ' B' H' ⟨⟨fv, x5, x6, x7, x8, x9, rfl, pf⟩, gg, sB⟩
          rw [List.take_of_length_le (Nat.le_refl _)] at pf
          refine ws_one (ws_ret (P := DD K (eMvs (movesIn hd ships st lat))) ?_ gg.bh fun v' B5 H5 g5 p5 => q v' B5 H5 (((g1.trans g2).trans gg).trans g5) p5)
          rw [e]
          have hM := mvs_go (h := hd) (ships := ships) (st := st) (lat := lat) ok.bn
          obtain ⟨r, er⟩ := hM.hd
          refine x_sorted (enc := ePls) (PySem.W.AllAlike.of alike_mv) (by rw [er]; exact sortOk_mv (un10 hr)) ?_ rfl T.b_sorted (x_var 4 rfl pf)
          rw [line_big]
          exact Nat.le_trans hM.len (Nat.le_trans (Nat.pow_le_pow_right (by decide) ok.sn) (by decide))
end
end TW
/-! W5: ways_in, least, added. -/
namespace TW
open PySem PySem.Spec PyProof.Rows L2
section
variable {P : Program} {w : World} {K : PySem.W.Frag} {mg : Str → Option Value} {base : Heap}
theorem dn33 (T : Txt K mg) : Dn P w K mg base CX0 4 "ways_in" ["harbour", "ships", "state", "latest"] (SpP (A30 K) fun y => DD K (eWays (waysIn y.1 y.2.1 y.2.2.1 y.2.2.2))) :=
  dn_of T.f33 sc33 (fun _ _ _ _ _ _ us hl => match us, hl with | [_, _, _, _], _ => rfl) (fun y B vs h => h.2.length) fun f cdv A0 outer s H vs E y B Q hr sb ha q => by
    obtain ⟨hd, ships, st, lat⟩ := y
    obtain ⟨⟨ok, h1⟩, hv⟩ := ha
    change Ok hd ships st at ok
    change lat.length = ships.length at h1
    obtain ⟨v1, v2, v3, v4, rfl, r1, r2, r3, r4⟩ := inv4 hv
    refine ws_cons (ws_newL 4 xd_nil sb (fun F vs B2 H2 g2 p2 hF => ?_) (hN := sc33.nd))
    obtain rfl := inv0 p2
    have r1' := Dq.up g2.bb _ _ r1
    have r2' := Dq.up g2.bb _ _ r2
    have r3' := Dq.up g2.bb _ _ r3
    have r4' := Dq.up g2.bb _ _ r4
    have A0' : Acc K B2 H2 F [] B2 (upd H2 F (.lst [])) := Acc.new g2.bh hF .nil
    have hok := movesIn_ok (h := hd) (ships := ships) (st := st) (lat := lat) ok.bn ok.sn
    refine ws_cons (ws_forB (l := movesIn hd ships st lat) (enc := ePls) rfl (xi_list ?_) A0'.bh fun B3 H3 g3 => ?_)
    · exact x_callK (y := (hd, ships, st, lat)) (dn30 T) hr rfl (xd_cons (x_var 0 rfl r1') (xd_cons (x_var 1 rfl r2') (xd_cons (x_var 2 rfl r3') xd_nil))) (x_var 3 rfl r4') (fun C vs v _ a b => ⟨⟨ok, h1⟩, a.app (.one b)⟩) rfl rfl
    · refine ⟨fun i σ' B' H' => (∃ x5, σ' = [some v1, some v2, some v3, some v4, some (.ref F), x5]) ∧ Acc K B2 H2 F (((waysIn hd ships st lat).take i).map eWay) B' H' ∧ Same B3 B',
        ⟨⟨_, rfl⟩, A0'.step g3, .refl _⟩, fun i σ' B' H' h => ⟨h.2.2, h.2.1.bh⟩, ?_, ?_⟩
      · rintro i m v σ' B' H' B4 H4 ea ⟨⟨x5, rfl⟩, ac, sB⟩ g4 dv
        have acc4 := ac.step g4
        have s4 := acc4.gr.bb
        have ew : (waysIn hd ships st lat)[i]? = some (m, costIn ships st m, afterMoves ships st m) := by
          unfold waysIn
          rw [List.getElem?_map, ea]
          rfl
        have hm := hok.2 m (List.mem_of_getElem? ea)
        refine ⟨_, xg_name 5 sc33.nd, ?_⟩
        refine ws_one (ws_accApp (d := eWay (m, costIn ships st m, afterMoves ships st m)) acc4 hF (fun C _ => x_var 4 rfl rfl) (x_tup (xd_cons (x_var 5 rfl dv) (xd_cons (x_call (y := (ships, st, m)) (dn31 T) (hr.mono (by decide)) rfl (xa_cons (P0 := DD K _) (PL := DDs K [_, _]) (x_var 1 rfl (Dq.up s4 _ _ r2')) (xd_cons (x_var 2 rfl (Dq.up s4 _ _ r3')) (xd_cons (x_var 5 rfl dv) xd_nil)) (fun _ _ _ _ a b => ⟨⟨ok.sn, ok.pl, by show m.length ≤ 100; omega⟩, .cons a b⟩)))
          (xd_cons (x_call (y := (ships, st, m)) (dn32 T) (hr.mono (by decide)) rfl (xa_cons (P0 := DD K _) (PL := DDs K [_, _]) (x_var 1 rfl (Dq.up s4 _ _ r2')) (xd_cons (x_var 2 rfl (Dq.up s4 _ _ r3')) (xd_cons (x_var 5 rfl dv) xd_nil)) (fun _ _ _ _ a b => ⟨⟨ok.sn, ok.pl, hm.2⟩, .cons a b⟩))) xd_nil)))) ?_ fun B7 H7 s7 a7 => ⟨B7, ⟨_, rfl⟩, ?_, (sB.trans g4.bb).trans s7⟩)
        · rw [List.length_map, List.length_take, line_big]
          have e : (waysIn hd ships st lat).length = (movesIn hd ships st lat).length := by
            unfold waysIn
            rw [List.length_map]
          omega
        · rw [List.take_add_one, ew, List.map_append]
          exact a7
      · rintro σ' B' H' ⟨⟨x5, rfl⟩, ac, sB⟩
        obtain ⟨B4, g4, p4, _⟩ := ac.done hF
        refine ws_one (ws_ret (P := DD K _) (x_var 4 rfl p4) g4.bh fun v' B5 H5 g5 p5 => ?_)
        refine q v' B5 H5 ((g2.trans g4).trans g5) ?_
        rw [List.take_of_length_le (by unfold waysIn; rw [List.length_map]; exact Nat.le_refl _)] at p5
        exact p5
def A35 (K : PySem.W.Frag) (y : List (Option Int)) (B : Hp) (vs : List V) : Prop := (y.length ≤ 1000) ∧ DqAll K B vs [eProm y]
theorem dn35 (T : Txt K mg) : Dn P w K mg base CX0 1 "least" ["numbers"] (SpP (A35 K) fun y => DD K (eOpt (leastOf y))) :=
  dn_of T.f35 sc35 (fun _ _ _ _ _ _ us hl => match us, hl with | [_], _ => rfl) (fun y B vs h => h.2.length) fun f cdv A0 outer s H vs E y B Q hr sb ha q => by
    obtain ⟨h0, hv⟩ := ha
    obtain ⟨v1, rfl, r1⟩ := inv1 hv
    refine ws_cons (ws_setLc (l := y) (enc := eOpt) (enc' := .int) (own := o35_0) 1 (xi_list (x_var 0 rfl r1)) id ?_ sb (fun sv B1 H1 g1 p1 => ?_) (by rw [line_big]; omega) rfl sc35.nd bk35_0 rfl)
    · intro i a v B' ea sb' hd
      apply lc_turn
      · rintro XB ⟨_, _, _, _, _, rfl⟩
        refine ⟨xg_name 2 sc35.nd, xts_one (XT.is (xt_cmp c_notN (x_var 2 rfl hd) x_non) ?_), fun r hr => ?_⟩
        · cases a <;> rfl
        · cases a with
          | none => cases hr
          | some i =>
            cases hr
            exact x_var 2 rfl hd
      · rfl
    · refine ws_one (ws_ret (P := DD K (eOpt (leastOf y))) (x_if (t := !((y.filterMap id).map PyData.int).isEmpty) (xt_seq (x_var 1 rfl p1) (.inl rfl)) (fun hc => ?_) fun hc => ?_) g1.bh fun v B2 H2 g2 p2 => q v B2 H2 (g1.trans g2) p2)
      · unfold leastOf
        generalize y.filterMap id = ns at p1 hc
        cases hm : ns.min? with
        | none =>
          rw [List.min?_eq_none_iff] at hm
          subst hm
          cases hc
        | some m =>
          have hm' := List.min?_eq_some_iff.mp hm
          refine x_min rfl rfl T.b_min (x_var 1 rfl p1) ?_ fun k hk hle => ?_
          · cases ns with
            | nil => cases hc
            | cons _ _ => exact Nat.succ_pos _
          · have a1 := hle m hm'.1
            have a2 := hm'.2 k hk
            omega
      · unfold leastOf
        have e : y.filterMap id = [] := by
          cases hz : y.filterMap id with
          | nil => rfl
          | cons a b =>
            rw [hz] at hc
            cases hc
        rw [e]
        exact x_non
def A36 (K : PySem.W.Frag) (y : Int × Option Int) (B : Hp) (vs : List V) : Prop := DqAll K B vs [.int y.1, eOpt y.2]
theorem dn36 (T : Txt K mg) : Dn P w K mg base CX0 1 "added" ["cost", "rest"] (SpP (A36 K) fun y => DD K (eOpt (addedOf y.1 y.2))) :=
  dn_of T.f36 sc36 (fun _ _ _ _ _ _ us hl => match us, hl with | [_, _], _ => rfl) (fun y B vs h => h.length) fun f cdv A0 outer s H vs E y B Q hr sb ha q => by
    obtain ⟨c, r⟩ := y
    obtain ⟨v1, v2, rfl, r1, r2⟩ := inv2 ha
    refine ws_one (ws_ret (P := DD K (eOpt (addedOf c r))) ?_ sb q)
    cases r with
    | none =>
      refine x_if (t := true) (xt_cmp c_isN (x_var 1 rfl r2) x_non) (fun _ => x_non) fun h => by cases h
    | some r =>
      refine x_if (t := false) (xt_cmp c_isN (x_var 1 rfl r2) x_non) (fun h => by cases h) fun _ => ?_
      exact x_add (x_var 0 rfl r1) (x_var 1 rfl r2)
end
end TW
/-! WD: own dicts; what is known, a cell the less. -/
namespace TW
open PySem PySem.Spec PyProof.Rows L2
/-! ### a cell the less -/
def dropA (B : Hp) (F : Addr) : Hp := fun a => if a = F then none else B a
theorem dropA_at (B : Hp) (F : Addr) : dropA B F F = none := if_pos rfl
theorem dropA_ne {B : Hp} {F a : Addr} (h : a ≠ F) : dropA B F a = B a := if_neg h
theorem dropA_sub {B : Hp} {F : Addr} : Same (dropA B F) B := fun a o h => by
  by_cases e : a = F
  · subst e
    rw [dropA_at] at h
    cases h
  · rw [dropA_ne e] at h
    exact h
/-- the cell at F is no list and no tuple -/
def NoSeq (B : Hp) (F : Addr) : Prop := (∀ xs, B F ≠ some (.lst xs)) ∧ (∀ xs, B F ≠ some (.tup xs)) ∧ ∀ o xs, B F ≠ some (.frz o (.tup xs))
theorem noSeq_ext {B : Hp} {F : Addr} {R : Heap → Prop} (h : B F = some (.ext R)) : NoSeq B F := ⟨fun xs z => (by rw [h] at z; cases z), fun xs z => (by rw [h] at z; cases z), fun o xs z => (by rw [h] at z; cases z)⟩
theorem noSeq_none {B : Hp} {F : Addr} (h : B F = none) : NoSeq B F := ⟨fun xs z => (by rw [h] at z; cases z), fun xs z => (by rw [h] at z; cases z), fun o xs z => (by rw [h] at z; cases z)⟩
mutual
theorem Dq.drop {K : PySem.W.Frag} {B : Hp} {F : Addr} (n : NoSeq B F) : ∀ (d : PyData) (v : V), Dq K B v d → Dq K (dropA B F) v d
  | .none, _, h => by cases h; exact .non
  | .bool _, _, h => by cases h; exact .bl _
  | .int _, _, h => by cases h; exact .int _
  | .str _, _, h => by cases h; exact .str _
  | .list ds, _, h => by
    cases h with
    | lst hs ha =>
      refine .lst ?_ (DqAll.drop n ds _ ha)
      rw [dropA_ne]
      · exact hs
      · rintro rfl
        exact n.1 _ hs
  | .tuple ds, _, h => by
    cases h with
    | tup hs ha =>
      refine .tup ?_ (DqAll.drop n ds _ ha)
      rcases hs with (hs | ⟨o, hs⟩) | hs
      · refine .inl (.inl ?_)
        rw [dropA_ne]
        · exact hs
        · rintro rfl
          exact n.2.1 _ hs
      · refine .inl (.inr ⟨o, ?_⟩)
        rw [dropA_ne]
        · exact hs
        · rintro rfl
          exact n.2.2 _ _ hs
      · exact .inr hs
  | .dict _, _, h => by cases h
theorem DqAll.drop {K : PySem.W.Frag} {B : Hp} {F : Addr} (n : NoSeq B F) : ∀ (ds : List PyData) (vs : List V), DqAll K B vs ds → DqAll K (dropA B F) vs ds
  | [], _, h => by cases h; exact .nil
  | d :: ds, _, h => by
    cases h with
    | cons h1 h2 => exact .cons (Dq.drop n d _ h1) (DqAll.drop n ds _ h2)
end
theorem Gr.drop {B H B' H' : Hp} {F : Addr} (g : Gr B H B' H') (h : B F = none) : Gr B H (dropA B' F) H' := by
  refine ⟨g.hh, fun a o e => ?_, dropA_sub.trans g.bh, fun a e => ?_⟩
  · rw [dropA_ne]
    · exact g.bb a o e
    · rintro rfl
      rw [h] at e
      cases e
  · refine g.fr a fun z => e ?_
    unfold dropA
    rw [z]
    exact ite_self _
/-- what grew over a frozen cell grew without it -/
theorem Gr.unfreeze {B H B' H' : Hp} {F : Addr} {o : HO} (g : Gr (upd B F o) H B' H') (h : B F = none) : Gr B H (dropA B' F) H' := by
  refine ⟨g.hh, fun a u e => ?_, dropA_sub.trans g.bh, fun a e => ?_⟩
  · have ne : a ≠ F := by
      rintro rfl
      rw [h] at e
      cases e
    rw [dropA_ne ne]
    exact g.bb a u (by rw [upd_ne ne]; exact e)
  · have ne : a ≠ F := by
      rintro rfl
      exact e (dropA_at _ _)
    rw [dropA_ne ne] at e
    rcases g.fr a e with z | z
    · rw [upd_ne ne] at z
      exact .inl z
    · exact .inr z
theorem same_upd {B H : Hp} {F : Addr} {o : HO} (s : Same B H) (h : H F = some o) : Same (upd B F o) H := fun a u e => by
  by_cases z : a = F
  · subst z
    rw [upd_same] at e
    cases e
    exact h
  · rw [upd_ne z] at e
    exact s a u e
section
variable {K : PySem.W.Frag} {B : Hp} {F : Addr}
theorem DNx.drop (n : NoSeq B F) : ∀ {kvs : List (NestedKey × PyData)} {xs : List NE}, DNx K B kvs xs → DNx K (dropA B F) kvs xs
  | _, _, .nil => .nil
  | _, _, .cons h1 h2 h3 h4 t => .cons (Dq.drop n _ _ h1) h2 h3 (Dq.drop n _ _ h4) (DNx.drop n t)
end
/-- while the cell at F is taken as it is -/
theorem at_frozen {X : Cx} {e : Expr} {σ : L2.St} {B H : Hp} {F : Addr} {R : Heap → Prop} {d : PyData} (h : XE X e σ (upd B F (.ext R)) (DD X.K d)) (s : Same B H) (hF : H F = some (.ext R)) (bF : B F = none) : XEat X e σ B H (DD X.K d) := fun Q k =>
  h H (same_upd s hF) Q fun v B' H' g p => k v _ H' (g.unfreeze bF) (Dq.drop (noSeq_ext (g.bb F (.ext R) upd_same)) _ _ p)
/-! ### own dicts -/
structure DAcc (P : Program) (w : World) (K : PySem.W.Frag) (B0 H0 : Hp) (F : Addr) (kvs : List (NestedKey × PyData)) (B' H' : Hp) : Prop where
  gr : Gr B0 H0 B' H'
  lo : B' F = none
  ns : (F == sysModules) = false
  ex : ∃ xs, H' F = some (dO P w F xs) ∧ DNx K B' kvs xs
section
variable {P : Program} {w : World} {K : PySem.W.Frag} {B0 H0 B' H' B2 H2 : Hp} {F G : Addr} {kvs : List (NestedKey × PyData)} {d : PyData} {v : V}
theorem DAcc.new (s : Same B0 H0) (hF : H0 F = none) (ns : (F == sysModules) = false) : DAcc P w K B0 H0 F [] B0 (upd H0 F (dO P w F [])) :=
  ⟨(Gr.rfl s).mut hF (s.free hF), s.free hF, ns, [], upd_same, .nil⟩
theorem DAcc.step (A : DAcc P w K B0 H0 F kvs B' H') (g : Gr B' H' B2 H2) : DAcc P w K B0 H0 F kvs B2 H2 := by
  obtain ⟨xs, h1, h2⟩ := A.ex
  exact ⟨A.gr.trans g, g.low A.lo (by rw [h1]; intro z; cases z), A.ns, xs, g.hh _ _ h1, h2.up g.bb⟩
/-- another own cell is written -/
theorem DAcc.other {o : HO} (A : DAcc P w K B0 H0 F kvs B' H') (h : H0 G = none) (hb : B' G = none) (ne : F ≠ G) : DAcc P w K B0 H0 F kvs B' (upd H' G o) := by
  obtain ⟨xs, h1, h2⟩ := A.ex
  exact ⟨A.gr.mut h hb, A.lo, A.ns, xs, by rw [upd_ne ne]; exact h1, h2⟩
theorem DAcc.bh (A : DAcc P w K B0 H0 F kvs B' H') : Same B' H' := A.gr.bh
theorem DAcc.done (A : DAcc P w K B0 H0 F kvs B' H') (hF : H0 F = none) (hz : kvs.length ≤ sizeLine) : ∃ B3, Gr B0 H0 B3 H' ∧ IsDict P w K kvs B3 (.ref F) ∧ Same B' B3 := by
  obtain ⟨xs, h1, h2⟩ := A.ex
  exact ⟨_, A.gr.freeze hF h1, ⟨F, xs, rfl, A.ns, upd_same, h2.up (same_new A.lo), hz⟩, same_new A.lo⟩
end
section
variable {X : Cx} {o i e : Expr} {σ : L2.St} {B H B0 H0 : Hp} {F : Addr} {pos pos' : Pos} {D : Ends} {kvs : List (NestedKey × PyData)} {k : NestedKey} {d : PyData}
/-- d[k] = e; d an own dict -/
theorem ws_daccPut (A : DAcc X.prog X.w X.K B0 H0 F kvs B H) (hF : H0 F = none) (hu : X.A.units + 32 < cLine) (he : XEat X e σ B H (DD X.K d)) (ho : ∀ C, Same B C → XE X o σ C (Is (.ref F))) (hk : XE X i σ B (DD X.K k.data)) (hd : k.depth ≤ 8) (hd2 : ∃ ks, k = .tup ks) (hl : kvs.length < sizeLine)
    (q : ∀ B' H1 o, Gr B H B' H1 → DAcc X.prog X.w X.K B0 H0 F (kvPut kvs k d) B' (upd H1 F o) → D.nx σ (upd H1 F o))
    (hs : swapsWith e (some (.Subscript o i pos')) pos.line X.env = pure false := by rfl) : WS X (.Assign [.Subscript o i pos'] e pos) D σ H := by
  obtain ⟨xs, h1, h2⟩ := A.ex
  refine ws_dset hu he ho hk hd hd2 A.bh h1 A.lo h2 hl (fun v a u B' H' g p r ka hp => ?_) hs
  have A' := A.step g
  exact q B' H' _ g ⟨A'.gr.mut hF A'.lo, A'.lo, A'.ns, _, upd_same, (h2.up g.bb).put ka hd r p⟩
/-- d[k]; d an own dict -/
theorem x_dgetOwn (A : DAcc X.prog X.w X.K B0 H0 F kvs B H) (hu : X.A.units + 32 < cLine) (hz : kvs.length ≤ sizeLine) (ho : ∀ C, Same B C → XE X o σ C (Is (.ref F))) (hk : XE X i σ B (DD X.K k.data)) (hd : k.depth ≤ 8) (hd2 : ∃ ks, k = .tup ks) (h : kvAt kvs k = some d) (hs : NoSl i := by intro _ _; rfl) : XEat X (.Subscript o i pos) σ B H (DD X.K d) := by
  obtain ⟨xs, h1, h2⟩ := A.ex
  have s1 : Same B (upd B F (dO X.prog X.w F xs)) := same_new A.lo
  refine at_frozen (R := RawD X.prog X.w F xs) (x_dget hu ((ho _ s1).imp fun C v sC hv => ?_) (hk.up s1) hd hd2 h hs) A.bh h1 A.lo
  obtain rfl : v = .ref F := hv
  exact ⟨F, xs, rfl, A.ns, sC _ _ upd_same, (h2.up s1).up sC, hz⟩
end
end TW
/-! W6: keys, the finite world, what grows (plain). -/
namespace TW
open PySem PySem.Spec PyProof.Rows L2
/-! ### keys -/
theorem kPair_datas : ∀ ps : List (Int × Int), NestedKey.datas (ps.map kPair) = ps.map ePair
  | [] => rfl
  | p :: ps => by
    rw [List.map_cons, List.map_cons, NestedKey.datas, kPair_datas ps]
    rfl
theorem kSta_data (s : Sta) : (kSta s).data = eSta s := by
  unfold kSta eSta ePls
  rw [NestedKey.data, NestedKey.datas, NestedKey.datas, NestedKey.datas, NestedKey.data, NestedKey.data, kPair_datas]
theorem kPair_depth : ∀ ps : List (Int × Int), NestedKey.depthAll (ps.map kPair) ≤ 1
  | [] => by rw [List.map_nil, NestedKey.depthAll]; omega
  | p :: ps => by
    rw [List.map_cons, NestedKey.depthAll]
    have := kPair_depth ps
    have e : (kPair p).depth = 1 := by simp [kPair, NestedKey.depth, NestedKey.depthAll]
    omega
theorem kSta_depth (s : Sta) : (kSta s).depth ≤ 8 := by
  unfold kSta
  have := kPair_depth s.2
  rw [NestedKey.depth, NestedKey.depthAll, NestedKey.depthAll, NestedKey.depthAll, NestedKey.depth, NestedKey.depth]
  omega
theorem kPair_inj {p q : Int × Int} (h : kPair p = kPair q) : p = q := by
  obtain ⟨a, b⟩ := p
  obtain ⟨c, d⟩ := q
  simp [kPair] at h
  rw [h.1, h.2]
theorem kPairs_inj : ∀ {ps qs : List (Int × Int)}, ps.map kPair = qs.map kPair → ps = qs
  | [], [], _ => rfl
  | [], _ :: _, h => by cases h
  | _ :: _, [], h => by cases h
  | p :: ps, q :: qs, h => by
    rw [List.map_cons, List.map_cons] at h
    obtain ⟨h1, h2⟩ := List.cons.inj h
    rw [kPair_inj h1, kPairs_inj h2]
theorem kSta_inj {s t : Sta} (h : kSta s = kSta t) : s = t := by
  obtain ⟨a, b⟩ := s
  obtain ⟨c, d⟩ := t
  unfold kSta at h
  simp only [NestedKey.tup.injEq, List.cons.injEq, NestedKey.num.injEq, and_true] at h
  rw [h.1, kPairs_inj h.2]
theorem kSta_eq (s t : Sta) : decide (kSta s = kSta t) = decide (s = t) := by
  by_cases h : s = t
  · rw [h]
    simp
  · rw [decide_eq_false h, decide_eq_false fun z => h (kSta_inj z)]
theorem kSta_tup (s : Sta) : ∃ ks, kSta s = .tup ks := ⟨_, rfl⟩
/-- the dict of a list of states and what stands under them -/
def kvsOf {β : Type} (e : β → PyData) (l : List (Sta × β)) : List (NestedKey × PyData) := l.map fun p => (kSta p.1, e p.2)
def lookS {β : Type} (l : List (Sta × β)) (s : Sta) : Option β := (l.find? fun p => decide (p.1 = s)).map (·.2)
theorem kvAt_of {β : Type} (e : β → PyData) : ∀ (l : List (Sta × β)) (s : Sta), kvAt (kvsOf e l) (kSta s) = (lookS l s).map e
  | [], _ => rfl
  | (t, b) :: l, s => by
    have ih := kvAt_of e l s
    unfold kvAt kvsOf lookS at ih ⊢
    rw [List.map_cons, List.find?_cons, List.find?_cons]
    simp only [kSta_eq]
    by_cases h : t = s
    · simp [h]
    · simp only [decide_eq_false h]
      exact ih
theorem lookS_none {β : Type} : ∀ {l : List (Sta × β)} {s : Sta}, s ∉ l.map (·.1) → lookS l s = none
  | [], _, _ => rfl
  | (t, b) :: l, s, h => by
    rw [List.map_cons, List.mem_cons, not_or] at h
    unfold lookS
    rw [List.find?_cons, decide_eq_false fun z => h.1 z.symm]
    exact lookS_none h.2
theorem lookS_mem {β : Type} : ∀ {l : List (Sta × β)} {s : Sta} {b : β}, (l.map (·.1)).Nodup → (s, b) ∈ l → lookS l s = some b
  | (t, c) :: l, s, b, h, hm => by
    rw [List.map_cons, List.nodup_cons] at h
    unfold lookS
    rw [List.find?_cons]
    rcases List.mem_cons.mp hm with z | z
    · cases z
      rw [decide_eq_true rfl]
      rfl
    · have ne : ¬ t = s := fun e => h.1 (by rw [e]; exact List.mem_map.mpr ⟨(s, b), z, rfl⟩)
      rw [decide_eq_false ne]
      exact lookS_mem h.2 z
theorem kvPut_new {β : Type} {e : β → PyData} {l : List (Sta × β)} {s : Sta} {b : β} (h : s ∉ l.map (·.1)) : kvPut (kvsOf e l) (kSta s) (e b) = kvsOf e (l ++ [(s, b)]) := by
  unfold kvPut
  rw [kvAt_of, lookS_none h, if_neg (by simp)]
  unfold kvsOf
  rw [List.map_append]
  rfl
/-- a set of states as a dict of True -/
def kvsT (l : List Sta) : List (NestedKey × PyData) := l.map fun s => (kSta s, .bool true)
theorem kvAt_T : ∀ (l : List Sta) (s : Sta), (kvAt (kvsT l) (kSta s)).isSome = decide (s ∈ l)
  | [], _ => rfl
  | t :: l, s => by
    have ih := kvAt_T l s
    unfold kvAt kvsT at ih ⊢
    rw [List.map_cons, List.find?_cons]
    simp only [kSta_eq]
    by_cases h : t = s
    · simp [h]
    · have h' : ¬ s = t := fun z => h z.symm
      simp only [decide_eq_false h, List.mem_cons, h', false_or]
      exact ih
theorem kvPut_T (l : List Sta) (s : Sta) : kvPut (kvsT l) (kSta s) (.bool true) = kvsT (addSta l s) := by
  unfold kvPut addSta
  rw [kvAt_T]
  by_cases h : s ∈ l
  · rw [decide_eq_true h, if_pos rfl, if_pos h]
    unfold kvsT
    rw [List.map_map]
    refine List.map_congr_left fun t _ => ?_
    simp only [Function.comp]
    split <;> rfl
  · rw [decide_eq_false h, if_neg (by simp), if_neg h]
    unfold kvsT
    rw [List.map_append]
    rfl
theorem keysD_T (l : List Sta) : keysD (kvsT l) = l.map eSta := by
  unfold keysD kvsT
  rw [List.map_map]
  exact List.map_congr_left fun s _ => kSta_data s
theorem keysD_of {β : Type} (e : β → PyData) (l : List (Sta × β)) : keysD (kvsOf e l) = (l.map (·.1)).map eSta := by
  unfold keysD kvsOf
  rw [List.map_map, List.map_map]
  exact List.map_congr_left fun s _ => kSta_data s.1
theorem addSta_nodup {l : List Sta} (h : l.Nodup) (s : Sta) : (addSta l s).Nodup := by
  unfold addSta
  split
  · exact h
  · rename_i hs
    rw [List.nodup_append]
    exact ⟨h, by simp, fun a ha b hb => by rw [List.mem_singleton.mp hb]; rintro rfl; exact hs ha⟩
theorem addSta_mem {l : List Sta} {s t : Sta} : t ∈ addSta l s ↔ t ∈ l ∨ t = s := by
  unfold addSta
  split
  · rename_i hs
    exact ⟨.inl, fun h => h.elim id fun e => e ▸ hs⟩
  · rw [List.mem_append, List.mem_singleton]
theorem foldAdd_nodup : ∀ (xs : List Sta) {l : List Sta}, l.Nodup → (xs.foldl addSta l).Nodup
  | [], _, h => h
  | x :: xs, _, h => foldAdd_nodup xs (addSta_nodup h x)
theorem foldAdd_mem : ∀ (xs : List Sta) {l : List Sta} {t : Sta}, t ∈ xs.foldl addSta l ↔ t ∈ l ∨ t ∈ xs
  | [], _, _ => by simp
  | x :: xs, l, t => by
    rw [List.foldl_cons, foldAdd_mem xs, addSta_mem, List.mem_cons, or_assoc]
/-! ### the finite world -/
theorem nodup_le {α : Type} [DecidableEq α] : ∀ {l m : List α}, l.Nodup → (∀ x ∈ l, x ∈ m) → l.length ≤ m.length
  | [], _, _, _ => Nat.zero_le _
  | x :: l, m, h, hs => by
    rw [List.nodup_cons] at h
    have hx : x ∈ m := hs x (.head _)
    have ih := nodup_le (l := l) (m := m.erase x) h.2 fun y hy => (List.mem_erase_of_ne (by rintro rfl; exact h.1 hy)).mpr (hs y (.tail _ hy))
    rw [List.length_erase_of_mem hx] at ih
    have : 0 < m.length := List.length_pos_of_mem hx
    rw [List.length_cons]
    omega
def plSet : List (Int × Int) := [(-1, 0), (-2, 0), (0, 0), (0, 1), (0, 2), (1, 0), (1, 1), (1, 2)]
def plLists : Nat → List (List (Int × Int))
  | 0 => [[]]
  | n + 1 => plSet.flatMap fun p => (plLists n).map (p :: ·)
theorem plLists_mem : ∀ {ps : List (Int × Int)}, (∀ p ∈ ps, p ∈ plSet) → ps ∈ plLists ps.length
  | [], _ => .head _
  | p :: ps, h => by
    show p :: ps ∈ plSet.flatMap fun p => (plLists ps.length).map (p :: ·)
    exact List.mem_flatMap.mpr ⟨p, h p (.head _), List.mem_map.mpr ⟨ps, plLists_mem fun q hq => h q (.tail _ hq), rfl⟩⟩
theorem plLists_len : ∀ n, (plLists n).length = 8 ^ n
  | 0 => rfl
  | n + 1 => by
    show (plSet.flatMap fun p => (plLists n).map (p :: ·)).length = _
    simp [plSet, plLists_len n, Nat.pow_succ]
    omega
structure Wd (h : Harb) (ships : List Ship) : Prop where
  dn : 0 < h.depths.length
  bn : h.berths.length ≤ 2
  sn : ships.length ≤ 2
  la : 0 ≤ h.last ∧ h.last ≤ 100
  st : ∀ s ∈ ships, 0 ≤ s.stay ∧ s.stay ≤ 2
  sm : ∀ s ∈ ships, Sm s.sea ∧ Sm s.lie
structure Stt (h : Harb) (ships : List Ship) (s : Sta) : Prop where
  pl : s.2.length = ships.length
  ps : ∀ p ∈ s.2, p ∈ plSet
  h0 : 0 ≤ s.1
  h1 : s.1 ≤ h.last + 1
theorem Wd.ok {h : Harb} {ships : List Ship} (w : Wd h ships) {s : Sta} (t : Stt h ships s) : Ok h ships s := ⟨w.dn, w.bn, w.sn, t.pl⟩
theorem layer_le {h : Harb} {ships : List Ship} (w : Wd h ships) {t : Int} {l : List Sta} (n : l.Nodup) (hs : ∀ s ∈ l, Stt h ships s ∧ s.1 = t) : l.length ≤ 64 := by
  have z := nodup_le (m := (plLists ships.length).map fun ps => (t, ps)) n fun s hm => by
    obtain ⟨a, b⟩ := hs s hm
    refine List.mem_map.mpr ⟨s.2, ?_, by rw [← b]⟩
    rw [← a.pl]
    exact plLists_mem a.ps
  rw [List.length_map, plLists_len] at z
  have := Nat.pow_le_pow_right (n := 8) (by decide) w.sn
  omega
/-! ### what moves there are -/
theorem berthsFor_lt {h : Harb} {s : Ship} {ps : List (Int × Int)} {b : Int} (hb : b ∈ berthsFor h s ps) : 0 ≤ b ∧ b < h.berths.length := by
  unfold berthsFor at hb
  obtain ⟨⟨l, n⟩, h1, h2⟩ := List.mem_filterMap.mp hb
  have hn : n < h.berths.length := by
    have := List.mem_zipIdx h1
    omega
  split at h2
  · cases h2
    exact ⟨Int.natCast_nonneg _, by omega⟩
  · cases h2
theorem rowOf_mem {h : Harb} {st : Sta} {lat : Lat} {n : Nat} {s : Ship} {b : Int} (hb : b ∈ rowOf h st lat n s) : b = -1 ∨ (0 ≤ b ∧ b < h.berths.length) := by
  unfold rowOf at hb
  split at hb
  · split at hb
    · exact .inr (berthsFor_lt hb)
    · split at hb
      · exact .inl (List.mem_singleton.mp hb)
      · cases hb
  · cases hb
theorem moves_berths {h : Harb} {ships : List Ship} {l : List (List Int × Nat)} {P : Int → Prop} (hl : ∀ r ∈ l, ∀ b ∈ r.1, P b) : ∀ (f : List Mv), (∀ m ∈ f, ∀ p ∈ m, P p.2) → ∀ m ∈ l.foldl (fun f p => moreOf h ships p.2 p.1 f) f, ∀ p ∈ m, P p.2 := by
  induction l with
  | nil => exact fun f hf => hf
  | cons r l ih =>
    intro f hf
    rw [List.foldl_cons]
    refine ih (fun r' hr' => hl r' (.tail _ hr')) _ fun m hm p hp => ?_
    rcases List.mem_append.mp (show m ∈ f ++ (moreRaw r.2 r.1 f).filter (isLet h ships) from hm) with hm | hm
    · exact hf m hm p hp
    · have hm := (List.mem_filter.mp hm).1
      unfold moreRaw at hm
      obtain ⟨m', h1, h2⟩ := List.mem_flatMap.mp hm
      obtain ⟨b, hb, rfl⟩ := List.mem_map.mp h2
      rcases List.mem_append.mp hp with hp | hp
      · exact hf m' h1 p hp
      · rw [List.mem_singleton.mp hp]
        exact hl r (.head _) b hb
theorem movesIn_berths {h : Harb} {ships : List Ship} {st : Sta} {lat : Lat} : ∀ m ∈ movesIn h ships st lat, ∀ p ∈ m, p.2 = -1 ∨ (0 ≤ p.2 ∧ p.2 < h.berths.length) := by
  unfold movesIn
  split
  · exact fun m hm => (nomatch hm)
  · intro m hm
    refine moves_berths (P := fun b => b = -1 ∨ (0 ≤ b ∧ b < h.berths.length)) (fun r hr b hb => ?_) [[]] (fun m hm p hp => by rw [List.mem_singleton.mp hm] at hp; cases hp) m (List.mem_mergeSort.mp hm)
    obtain ⟨row, n⟩ := r
    have h1 := List.mem_zipIdx hr
    have h2 : row ∈ choicesOf h ships st lat := by
      rw [h1.2.2]
      exact List.getElem_mem _
    unfold choicesOf at h2
    obtain ⟨p, _, rfl⟩ := List.mem_map.mp h2
    exact rowOf_mem hb
theorem tick_set {p : Int × Int} (h : p ∈ plSet) : tick p ∈ plSet := by
  simp only [plSet, List.mem_cons, List.not_mem_nil, or_false] at h
  rcases h with rfl | rfl | rfl | rfl | rfl | rfl | rfl | rfl <;> decide
theorem landed_set {h : Harb} {ships : List Ship} (w : Wd h ships) {p : Int × Int} (h1 : 0 ≤ p.1 ∧ p.1 < (ships.length : Int)) (h2 : p.2 = -1 ∨ (0 ≤ p.2 ∧ p.2 < h.berths.length)) : landed ships p ∈ plSet := by
  unfold landed
  split
  · decide
  · have hb := w.bn
    have hs : (shipAt ships p.1) ∈ ships := by
      unfold shipAt
      have : p.1.toNat < ships.length := by omega
      simp [this]
    have hst := w.st _ hs
    have e1 : p.2 = 0 ∨ p.2 = 1 := by omega
    have e2 : (shipAt ships p.1).stay = 0 ∨ (shipAt ships p.1).stay = 1 ∨ (shipAt ships p.1).stay = 2 := by omega
    rcases e1 with e1 | e1 <;> rcases e2 with e2 | e2 | e2 <;> rw [e1, e2] <;> decide
theorem putMv_set {h : Harb} {ships : List Ship} (w : Wd h ships) : ∀ (m : Mv) (ps : List (Int × Int)), (∀ p ∈ m, (0 ≤ p.1 ∧ p.1 < (ships.length : Int)) ∧ (p.2 = -1 ∨ (0 ≤ p.2 ∧ p.2 < h.berths.length))) → (∀ p ∈ ps, p ∈ plSet) → ∀ p ∈ m.foldl (putMv ships) ps, p ∈ plSet
  | [], _, _, hp => hp
  | q :: m, ps, hm, hp => by
    rw [List.foldl_cons]
    refine putMv_set w m _ (fun p h => hm p (.tail _ h)) fun p h => ?_
    rcases List.mem_or_eq_of_mem_set h with h | h
    · exact hp p h
    · rw [h]
      have := hm q (.head _)
      exact landed_set w this.1 this.2
theorem after_stt {h : Harb} {ships : List Ship} (w : Wd h ships) {s : Sta} (t : Stt h ships s) (hl : s.1 ≤ h.last) {m : Mv} (hm : ∀ p ∈ m, (0 ≤ p.1 ∧ p.1 < (ships.length : Int)) ∧ (p.2 = -1 ∨ (0 ≤ p.2 ∧ p.2 < h.berths.length))) : Stt h ships (afterMoves ships s m) := by
  refine ⟨?_, ?_, ?_, ?_⟩
  · show (m.foldl (putMv ships) (s.2.map tick)).length = _
    rw [putMv_len, List.length_map, t.pl]
  · refine putMv_set w m _ hm fun p hp => ?_
    obtain ⟨q, hq, rfl⟩ := List.mem_map.mp hp
    exact tick_set (t.ps q hq)
  · show 0 ≤ s.1 + 1
    have := t.h0
    omega
  · show s.1 + 1 ≤ h.last + 1
    omega
theorem ways_stt {h : Harb} {ships : List Ship} (w : Wd h ships) {s : Sta} {lat : Lat} (t : Stt h ships s) : ∀ x ∈ waysIn h ships s lat, Stt h ships x.2.2 ∧ x.2.2.1 = s.1 + 1 ∧ s.1 ≤ h.last := by
  intro x hx
  unfold waysIn at hx
  obtain ⟨m, hm, rfl⟩ := List.mem_map.mp hx
  have hl : s.1 ≤ h.last := by
    unfold movesIn at hm
    split at hm
    · cases hm
    · rename_i hc
      omega
  have h1 := movesIn_ok (h := h) (ships := ships) (st := s) (lat := lat) w.bn w.sn
  have h2 := movesIn_berths m hm
  exact ⟨after_stt w t hl fun p hp => ⟨(h1.2 m hm).2.2 p hp, h2 p hp⟩, rfl, hl⟩
theorem ways_len {h : Harb} {ships : List Ship} (w : Wd h ships) {s : Sta} {lat : Lat} : (waysIn h ships s lat).length ≤ 9 := by
  unfold waysIn
  rw [List.length_map]
  exact (movesIn_ok w.bn w.sn).1
theorem later_ok {h : Harb} {ships : List Ship} (w : Wd h ships) {lat : Lat} {t : Int} {l : List Sta} (hs : ∀ s ∈ l, Stt h ships s ∧ s.1 = t) : (laterOf h ships lat l).Nodup ∧ ∀ s ∈ laterOf h ships lat l, Stt h ships s ∧ s.1 = t + 1 := by
  unfold laterOf
  refine ⟨foldAdd_nodup _ .nil, fun s hm => ?_⟩
  rcases (foldAdd_mem _).mp hm with z | z
  · cases z
  · obtain ⟨u, hu, z⟩ := List.mem_flatMap.mp z
    obtain ⟨x, hx, rfl⟩ := List.mem_map.mp z
    obtain ⟨h1, h2, _⟩ := ways_stt w (hs u hu).1 x hx
    exact ⟨h1, by rw [h2, (hs u hu).2]⟩
theorem grownGo_nil {h : Harb} {ships : List Ship} {lat : Lat} : ∀ (k : Nat) (f : Found), grownGo h ships lat k f [] = f
  | 0, _ => rfl
  | k + 1, f => by
    unfold grownGo
    rw [show laterOf h ships lat [] = [] from rfl, grownGo_nil k, List.map_nil, List.append_nil]
end TW
/-! W7: grown. -/
namespace TW
open PySem PySem.Spec PyProof.Rows L2
/-! ### plain -/
structure LInv (h : Harb) (ships : List Ship) (st : Sta) (lat : Lat) (m : Nat) (t : Int) (found : Found) (layer : List Sta) : Prop where
  me : (m : Int) = h.last + 2 - t
  t0 : 0 ≤ t
  nd : layer.Nodup
  ly : ∀ s ∈ layer, Stt h ships s ∧ s.1 = t
  lt : ∀ p ∈ found, p.1.1 < t
  nf : (found.map (·.1)).Nodup
  sz : found.length + 64 * m ≤ 6528
  go : grownGo h ships lat m found layer = grownOf h ships st lat
def newOf (h : Harb) (ships : List Ship) (lat : Lat) (layer : List Sta) : Found := layer.map fun s => (s, waysIn h ships s lat)
theorem newOf_keys (h : Harb) (ships : List Ship) (lat : Lat) (layer : List Sta) : (newOf h ships lat layer).map (·.1) = layer := by
  unfold newOf
  rw [List.map_map]
  exact List.map_id' layer
theorem LInv.start {h : Harb} {ships : List Ship} {st : Sta} {lat : Lat} (w : Wd h ships) (s : Stt h ships st) : LInv h ships st lat (fuelOf h st) st.1 [] [st] := by
  have h0 := s.h0
  have h1 := s.h1
  have hl := w.la
  have e : ((fuelOf h st : Nat) : Int) = h.last + 2 - st.1 := by
    unfold fuelOf
    omega
  refine ⟨e, h0, by simp, fun u hu => ?_, fun p hp => (nomatch hp), .nil, ?_, rfl⟩
  · rw [List.mem_singleton.mp hu]
    exact ⟨s, rfl⟩
  · show 0 + _ ≤ _
    omega
theorem found_nodup {h : Harb} {ships : List Ship} {st : Sta} {lat : Lat} {m : Nat} {t : Int} {found : Found} {layer : List Sta} (I : LInv h ships st lat m t found layer) : ((found ++ newOf h ships lat layer).map (·.1)).Nodup := by
  rw [List.map_append, newOf_keys, List.nodup_append]
  refine ⟨I.nf, I.nd, fun a ha b hb e => ?_⟩
  obtain ⟨p, hp, rfl⟩ := List.mem_map.mp ha
  have h1 := I.lt p hp
  have h2 := (I.ly b hb).2
  rw [← e] at h2
  omega
theorem LInv.step {h : Harb} {ships : List Ship} {st : Sta} {lat : Lat} {m : Nat} {t : Int} {found : Found} {layer : List Sta} (w : Wd h ships) (I : LInv h ships st lat m t found layer) (ne : layer ≠ []) :
    ∃ m', m = m' + 1 ∧ LInv h ships st lat m' (t + 1) (found ++ newOf h ships lat layer) (laterOf h ships lat layer) := by
  obtain ⟨s, hs⟩ := List.exists_mem_of_ne_nil _ ne
  have h1 := (I.ly s hs).1.h1
  have h2 := (I.ly s hs).2
  have hm := I.me
  obtain ⟨m', rfl⟩ : ∃ m', m = m' + 1 := ⟨m - 1, by omega⟩
  have hl := layer_le w I.nd I.ly
  have hz := I.sz
  have ht := I.t0
  refine ⟨m', rfl, ⟨by omega, by omega, (later_ok w I.ly).1, (later_ok w I.ly).2, fun p hp => ?_, found_nodup I, ?_, I.go⟩⟩
  · rcases List.mem_append.mp hp with hp | hp
    · have := I.lt p hp
      omega
    · have := (I.ly p.1 (by rw [← newOf_keys h ships lat layer]; exact List.mem_map.mpr ⟨p, hp, rfl⟩)).2
      omega
  · rw [List.length_append]
    have : (newOf h ships lat layer).length = layer.length := List.length_map ..
    omega
theorem LInv.done {h : Harb} {ships : List Ship} {st : Sta} {lat : Lat} {m : Nat} {t : Int} {found : Found} (I : LInv h ships st lat m t found []) : found = grownOf h ships st lat := by
  rw [← I.go, grownGo_nil]
theorem foldAdd_len : ∀ (xs l : List Sta), (xs.foldl addSta l).length ≤ l.length + xs.length
  | [], l => Nat.le_refl _
  | x :: xs, l => by
    have ih := foldAdd_len xs (addSta l x)
    have h1 : (addSta l x).length ≤ l.length + 1 := by
      unfold addSta
      split
      · omega
      · rw [List.length_append]
        simp
    rw [List.foldl_cons, List.length_cons]
    omega
/-- what is behind a state -/
def behOf (h : Harb) (ships : List Ship) (lat : Lat) (s : Sta) : List Sta := (waysIn h ships s lat).map (·.2.2)
theorem flat_len {h : Harb} {ships : List Ship} (w : Wd h ships) (lat : Lat) : ∀ l : List Sta, (l.flatMap (behOf h ships lat)).length ≤ 9 * l.length
  | [] => Nat.le_refl _
  | s :: l => by
    have := flat_len w lat l
    have h2 := ways_len (lat := lat) (s := s) w
    rw [List.flatMap_cons, List.length_append, List.length_cons]
    have e : (behOf h ships lat s).length = (waysIn h ships s lat).length := List.length_map ..
    omega
theorem kvsT_len (l : List Sta) : (kvsT l).length = l.length := List.length_map ..
theorem kvsOf_len {β : Type} (e : β → PyData) (l : List (Sta × β)) : (kvsOf e l).length = l.length := List.length_map ..
/-- a second own dict, made when the first is there -/
theorem DAcc.newIn {P : Program} {w : World} {K : PySem.W.Frag} {B0 H0 B' H' : Hp} {G : Addr} (g : Gr B0 H0 B' H') (hG : H' G = none) (ns : (G == sysModules) = false) : DAcc P w K B0 H0 G [] B' (upd H' G (dO P w G [])) :=
  ⟨g.mut (g.hh.free hG) (g.bh.free hG), g.bh.free hG, ns, [], upd_same, .nil⟩
theorem DAcc.frzOther {P : Program} {w : World} {K : PySem.W.Frag} {B0 H0 B' H' : Hp} {F G : Addr} {kvs : List (NestedKey × PyData)} {o : HO} (A : DAcc P w K B0 H0 F kvs B' H') (h : H0 G = none) (e : H' G = some o) (ne : F ≠ G) : DAcc P w K B0 H0 F kvs (upd B' G o) H' := by
  obtain ⟨xs, h1, h2⟩ := A.ex
  have g2 := A.gr.freeze h e
  refine ⟨g2, by rw [upd_ne ne]; exact A.lo, A.ns, xs, h1, h2.up ?_⟩
  intro b u hb
  by_cases z : b = G
  · subst z
    have q := A.gr.bh b u hb
    rw [e] at q
    rw [upd_same]
    exact q
  · rw [upd_ne z]
    exact hb
section
variable {P : Program} {w : World} {K : PySem.W.Frag} {mg : Str → Option Value} {base : Heap}
def A34 (K : PySem.W.Frag) (y : Harb × List Ship × Sta × Lat) (B : Hp) (vs : List V) : Prop := (Wd y.1 y.2.1 ∧ Stt y.1 y.2.1 y.2.2.1 ∧ y.2.2.2.length = y.2.1.length) ∧ DqAll K B vs [eHarb y.1, eShips y.2.1, eSta y.2.2.1, eProm y.2.2.2]
def foundD (f : Found) : List (NestedKey × PyData) := kvsOf eWays f
theorem dn34 (T : Txt K mg) : Dn P w K mg base CX0 5 "grown" ["harbour", "ships", "state", "latest"] (SpP (A34 K) fun y => IsDict P w K (foundD (grownOf y.1 y.2.1 y.2.2.1 y.2.2.2))) :=
  dn_of T.f34 sc34 (fun _ _ _ _ _ _ us hl => match us, hl with | [_, _, _, _], _ => rfl) (fun y B vs h => h.2.length) fun f cdv A0 outer s H vs E y B Q hr sb ha q => by
    obtain ⟨hd, ships, st, lat⟩ := y
    obtain ⟨⟨wd, stt, h1⟩, hv⟩ := ha
    change Wd hd ships at wd
    change Stt hd ships st at stt
    change lat.length = ships.length at h1
    obtain ⟨v1, v2, v3, v4, rfl, r1, r2, r3, r4⟩ := inv4 hv
    refine ws_cons (ws_dnew 4 (fun F hF nsF => ?_) sc34.nd)
    have A0' : DAcc P w K B H F [] B (upd H F (dO P w F [])) := DAcc.newIn (Gr.rfl sb) hF nsF
    refine ws_cons (ws_set (P := DD K (.list ([st].map eSta))) 5 (x_lst (xd_cons (x_var 2 rfl r3) xd_nil)) A0'.bh (fun lv B1 H1 g1 p1 => ?_) (hN := sc34.nd))
    refine ws_cons (ws_while (fun m σ' H' => ∃ B' t found layer lv x6 x7 x8 x9 x10, σ' = [some v1, some v2, some v3, some v4, some (.ref F), some lv, x6, x7, x8, x9, x10] ∧ DAcc P w K B H F (kvsOf eWays found) B' H' ∧ Dq K B' lv (.list (layer.map eSta)) ∧ LInv hd ships st lat m t found layer)
      (fuelOf hd st) ?_ ?_)
    · exact ⟨B1, st.1, [], [st], lv, _, _, _, _, _, rfl, A0'.step g1, p1, .start wd stt⟩
    rintro m σ' H' ⟨B2, t, found, layer, lv, x6, x7, x8, x9, x10, rfl, aF, pl, LI⟩
    refine ⟨!(layer.map eSta).isEmpty, B2, aF.bh, xt_seq (x_var 5 rfl pl) (.inl rfl), fun hne B3 H3 g3 => ?_, fun hem B3 H3 g3 => ?_⟩
    · have ne : layer ≠ [] := by
        rintro rfl
        cases hne
      obtain ⟨m', rfl, LI'⟩ := LI.step wd ne
      refine ⟨fun σ' H' => ∃ B' lv x6 x7 x8 x9 x10, σ' = [some v1, some v2, some v3, some v4, some (.ref F), some lv, x6, x7, x8, x9, x10] ∧ DAcc P w K B H F (kvsOf eWays (found ++ newOf hd ships lat layer)) B' H' ∧ Dq K B' lv (.list ((laterOf hd ships lat layer).map eSta)),
        fun σ2 H4 ⟨B4, lv, y6, y7, y8, y9, y10, e, a, p⟩ => ⟨m', Nat.lt_succ_self _, B4, t + 1, _, _, lv, y6, y7, y8, y9, y10, e, a, p, LI'⟩, ?_⟩
      have aF3 := aF.step g3
      have pl3 := Dq.up g3.bb _ _ pl
      refine ws_cons (ws_dnew 6 (fun G hG nsG => ?_) sc34.nd)
      have hGH : H G = none := aF3.gr.hh.free hG
      have neFG : F ≠ G := by
        rintro rfl
        obtain ⟨xs, z, _⟩ := aF3.ex
        rw [hG] at z
        cases z
      have aG4 : DAcc P w K B H G [] B3 _ := DAcc.newIn aF3.gr hG nsG
      have aF4 : DAcc P w K B H F (kvsOf eWays found) B3 (upd H3 G (dO P w G [])) := aF3.other hGH aG4.lo neFG
      have ll := layer_le wd LI.nd LI.ly
      have lf := LI.sz
      refine ws_cons (ws_forB (l := layer) (enc := eSta) rfl (xi_list (x_var 5 rfl pl3)) aF4.bh fun B5 H5 g5 => ?_)
      refine ⟨fun i σ' B' H' => (∃ x7 x8 x9 x10, σ' = [some v1, some v2, some v3, some v4, some (.ref F), some lv, some (.ref G), x7, x8, x9, x10]) ∧ DAcc P w K B H F (kvsOf eWays (found ++ newOf hd ships lat (layer.take i))) B' H' ∧ DAcc P w K B H G (kvsT (((layer.take i).flatMap (behOf hd ships lat)).foldl addSta [])) B' H' ∧ Same B5 B',
        ⟨⟨_, _, _, _, rfl⟩, by rw [List.take_zero]; show DAcc P w K B H F (kvsOf eWays (found ++ [])) B5 H5; rw [List.append_nil]; exact aF4.step g5, aG4.step g5, .refl _⟩, fun i σ' B' H' h => ⟨h.2.2.2, h.2.1.bh⟩, ?_, ?_⟩
      · rintro i here v σ' B' H' B6 H6 ea ⟨⟨x7, x8, x9, x10, rfl⟩, bF, bG, sB⟩ g6 dv
        have bF6 := bF.step g6
        have bG6 := bG.step g6
        have s6 := bF6.gr.bb
        have hh := LI.ly here (List.mem_of_getElem? ea)
        have til : (layer.take i).length ≤ layer.length := by rw [List.length_take]; omega
        have eF : newOf hd ships lat (layer.take (i + 1)) = newOf hd ships lat (layer.take i) ++ [(here, waysIn hd ships here lat)] := by
          unfold newOf
          rw [List.take_add_one, ea, List.map_append]
          rfl
        have fresh : here ∉ (found ++ newOf hd ships lat (layer.take i)).map (·.1) := by
          have nd := found_nodup LI
          have el : layer = layer.take i ++ here :: layer.drop (i + 1) := by
            have hi := (List.getElem?_eq_some_iff.mp ea)
            obtain ⟨hi, rfl⟩ := hi
            rw [← List.drop_eq_getElem_cons hi, List.take_append_drop]
          rw [List.map_append, newOf_keys] at nd ⊢
          rw [List.nodup_append] at nd
          rw [List.mem_append, not_or]
          refine ⟨fun z => nd.2.2 _ z here (List.mem_of_getElem? ea) rfl, fun z => ?_⟩
          have nl := nd.2.1
          rw [el, List.nodup_append] at nl
          exact nl.2.2 here z here (.head _) rfl
        refine ⟨_, xg_name 7 sc34.nd, ?_⟩
        have lk : (kvsOf eWays (found ++ newOf hd ships lat (layer.take i))).length ≤ 6528 + 64 := by
          rw [kvsOf_len, List.length_append]
          have : (newOf hd ships lat (layer.take i)).length = (layer.take i).length := List.length_map ..
          omega
        refine ws_cons (ws_daccPut (d := eWays (waysIn hd ships here lat)) (k := kSta here) bF6 hF (un32 hr) (XE.at (x_call (y := (hd, ships, here, lat)) (dn33 T) hr rfl (xa_cons (P0 := DD K _) (PL := DDs K [_, _, _]) (x_var 0 rfl (Dq.up s6 _ _ r1)) (xd_cons (x_var 1 rfl (Dq.up s6 _ _ r2)) (xd_cons (x_var 7 rfl dv) (xd_cons (x_var 3 rfl (Dq.up s6 _ _ r4)) xd_nil))) (fun _ _ _ _ a b => ⟨⟨wd.ok hh.1, h1⟩, .cons a b⟩))) bF6.bh)
          (fun C _ => x_var 4 rfl rfl) (x_var 7 rfl (by rw [kSta_data]; exact dv)) (kSta_depth _) (kSta_tup _) (by rw [line_big]; omega) fun B7 H7 o g7 cF => ?_)
        have bG7 : DAcc P w K B H G _ B7 (upd H7 F o) := (bG6.step g7).other hF cF.lo (Ne.symm neFG)
        rw [kvPut_new fresh, List.append_assoc, ← eF] at cF
        have dv7 := Dq.up g7.bb _ _ dv
        have nodF : ((found ++ newOf hd ships lat (layer.take (i + 1))).map (·.1)).Nodup := by
          have nd := found_nodup LI
          rw [List.map_append, newOf_keys] at nd ⊢
          rw [List.nodup_append] at nd ⊢
          exact ⟨nd.1, nd.2.1.sublist (List.take_sublist _ _), fun a ha b hb => nd.2.2 a ha b (List.mem_of_mem_take hb)⟩
        have look : kvAt (kvsOf eWays (found ++ newOf hd ships lat (layer.take (i + 1)))) (kSta here) = some (eWays (waysIn hd ships here lat)) := by
          rw [kvAt_of, lookS_mem nodF (b := waysIn hd ships here lat)]
          · rfl
          · rw [eF]
            simp
        have lk2 : (kvsOf eWays (found ++ newOf hd ships lat (layer.take (i + 1)))).length ≤ sizeLine := by
          rw [kvsOf_len, List.length_append, line_big]
          have : (newOf hd ships lat (layer.take (i + 1))).length = (layer.take (i + 1)).length := List.length_map ..
          have t2 : (layer.take (i + 1)).length ≤ layer.length := by rw [List.length_take]; omega
          omega
        refine ws_one (ws_forBA (l := waysIn hd ships here lat) (enc := eWay) rfl (xi_list_at (x_dgetOwn cF (un32 hr) lk2 (fun C _ => x_var 4 rfl rfl) (x_var 7 rfl (by rw [kSta_data]; exact dv7)) (kSta_depth _) (kSta_tup _) look)) fun B8 H8 g8 => ?_)
        refine ⟨fun j σ' B' H' => (∃ x8 x9 x10, σ' = [some v1, some v2, some v3, some v4, some (.ref F), some lv, some (.ref G), some v, x8, x9, x10]) ∧ DAcc P w K B H F (kvsOf eWays (found ++ newOf hd ships lat (layer.take (i + 1)))) B' H' ∧ DAcc P w K B H G (kvsT ((((waysIn hd ships here lat).take j).map (·.2.2)).foldl addSta (((layer.take i).flatMap (behOf hd ships lat)).foldl addSta []))) B' H' ∧ Same B8 B',
          ⟨⟨_, _, _, rfl⟩, cF.step g8, bG7.step g8, .refl _⟩, fun i σ' B' H' h => ⟨h.2.2.2, h.2.1.bh⟩, ?_, ?_⟩
        · rintro j ⟨mv, cst, beh⟩ v' σ' B' H' B9 H9 ej ⟨⟨x8, x9, x10, rfl⟩, dF, dG, sj⟩ g9 dw
          obtain ⟨b, w1, w2, w3, rfl, hq, t1, t2, t3⟩ := tup3 dw
          have dF9 := dF.step g9
          have dG9 := dG.step g9
          have ej2 : ((waysIn hd ships here lat).map (·.2.2))[j]? = some beh := by
            rw [List.getElem?_map, ej]
            rfl
          refine ⟨_, xg_tup rfl hq (xgs_cons (xg_name 8 sc34.nd) (xgs_cons (xg_name 9 sc34.nd) (xgs_cons (xg_name 10 sc34.nd) xgs_nil))), ?_⟩
          refine ws_one (ws_daccPut (d := .bool true) (k := kSta beh) dG9 hGH (un32 hr) (XE.at x_bl dG9.bh) (fun C _ => x_var 6 rfl rfl) (x_var 10 rfl (by rw [kSta_data]; exact t3)) (kSta_depth _) (kSta_tup _) ?_ fun B10 H10 o2 g10 eG => ?_)
          · rw [kvsT_len, line_big]
            have k1 := foldAdd_len (((waysIn hd ships here lat).take j).map (·.2.2)) (((layer.take i).flatMap (behOf hd ships lat)).foldl addSta [])
            have k2 := foldAdd_len ((layer.take i).flatMap (behOf hd ships lat)) []
            have k3 := flat_len wd lat (layer.take i)
            have k4 := ways_len (lat := lat) (s := here) wd
            have k5 : (((waysIn hd ships here lat).take j).map (·.2.2)).length ≤ (waysIn hd ships here lat).length := by rw [List.length_map, List.length_take]; omega
            simp only [List.length_nil] at k2
            omega
          · rw [kvPut_T] at eG
            refine ⟨B10, ⟨_, _, _, rfl⟩, (dF9.step g10).other hGH eG.lo neFG, ?_, (sj.trans g9.bb).trans g10.bb⟩
            have et : (((waysIn hd ships here lat).take (j + 1)).map (·.2.2)).foldl addSta (((layer.take i).flatMap (behOf hd ships lat)).foldl addSta []) = addSta ((((waysIn hd ships here lat).take j).map (·.2.2)).foldl addSta (((layer.take i).flatMap (behOf hd ships lat)).foldl addSta [])) beh := by
              rw [List.map_take, List.map_take, take_foldl ej2]
            rw [et]
            exact eG
        · rintro σ' B' H' ⟨⟨x8, x9, x10, rfl⟩, dF, dG, sj⟩
          refine ⟨B', ⟨_, _, _, _, rfl⟩, dF, ?_, (((sB.trans g6.bb).trans g7.bb).trans g8.bb).trans sj⟩
          rw [List.take_of_length_le (Nat.le_refl _)] at dG
          have et : ((layer.take (i + 1)).flatMap (behOf hd ships lat)).foldl addSta [] = ((waysIn hd ships here lat).map (·.2.2)).foldl addSta (((layer.take i).flatMap (behOf hd ships lat)).foldl addSta []) := by
            rw [List.take_add_one, ea, List.flatMap_append, List.foldl_append]
            simp [behOf]
          rw [et]
          exact dG
      · rintro σ' B' H' ⟨⟨x7, x8, x9, x10, rfl⟩, bF, bG, sB⟩
        rw [List.take_of_length_le (Nat.le_refl _)] at bF bG
        have eL : (layer.flatMap (behOf hd ships lat)).foldl addSta [] = laterOf hd ships lat layer := rfl
        rw [eL] at bG
        have lz : (kvsT (laterOf hd ships lat layer)).length ≤ sizeLine := by
          rw [kvsT_len, line_big]
          have := layer_le wd (later_ok (lat := lat) wd LI.ly).1 (later_ok (lat := lat) wd LI.ly).2
          omega
        obtain ⟨xs, e1, e2⟩ := bG.ex
        have bF2 := bF.frzOther hGH e1 neFG
        have dG : IsDict P w K (kvsT (laterOf hd ships lat layer)) (upd B' G (dO P w G xs)) (.ref G) := ⟨G, xs, rfl, nsG, upd_same, e2.up (same_new bG.lo), lz⟩
        refine ws_one (ws_set (P := DD K (.list (keysD (kvsT (laterOf hd ships lat layer))))) 5 (x_listN rfl rfl T.b_list (x_var 6 rfl dG)) bF2.bh (fun lv2 B9 H9 g9 p9 => ⟨B9, lv2, _, _, _, _, _, rfl, bF2.step g9, ?_⟩) (hN := sc34.nd))
        rw [keysD_T] at p9
        exact p9
    · have e : layer = [] := by
        cases layer with
        | nil => rfl
        | cons _ _ => cases hem
      subst e
      have aF3 := aF.step g3
      have lz : (kvsOf eWays found).length ≤ sizeLine := by
        rw [kvsOf_len, line_big]
        have := LI.sz
        omega
      obtain ⟨B4, g4, p4, _⟩ := aF3.done hF lz
      refine ws_one (ws_ret (P := IsDict P w K (kvsOf eWays found)) (x_var 4 rfl p4) g4.bh fun v' B5 H5 g5 p5 => q v' B5 H5 (g4.trans g5) ?_)
      show IsDict P w K (kvsOf eWays (grownOf hd ships st lat)) B5 v'
      rw [← LI.done]
      exact p5
end
end TW
/-! W8: rests_in, rest_of, ways_on, best_moves. -/
namespace TW
open PySem PySem.Spec PyProof.Rows L2
/-! ### plain -/
structure GoodF (h : Harb) (ships : List Ship) (lat : Lat) (found : Found) (layer : List Sta) : Prop where
  at' : ∀ (i : Nat) (s : Sta) (ws : List Way), found[i]? = some (s, ws) → Stt h ships s ∧ ws = waysIn h ships s lat ∧ ∀ x ∈ ws, (∃ j : Nat, i < j ∧ ∃ q : Sta × List Way, found[j]? = some q ∧ q.1 = x.2.2) ∨ x.2.2 ∈ layer
theorem GoodF.step {h : Harb} {ships : List Ship} {lat : Lat} {found : Found} {layer : List Sta} (g : GoodF h ships lat found layer) (hs : ∀ s ∈ layer, Stt h ships s) : GoodF h ships lat (found ++ newOf h ships lat layer) (laterOf h ships lat layer) := by
  refine ⟨fun i s ws e => ?_⟩
  by_cases hi : i < found.length
  · rw [List.getElem?_append_left hi] at e
    obtain ⟨h1, h2, h3⟩ := g.at' i s ws e
    refine ⟨h1, h2, fun x hx => .inl ?_⟩
    rcases h3 x hx with ⟨j, hj, q, e1, e2⟩ | hl
    · exact ⟨j, hj, q, by rw [List.getElem?_append_left (List.getElem?_eq_some_iff.mp e1).1]; exact e1, e2⟩
    · obtain ⟨k, hk⟩ := List.mem_iff_getElem?.mp hl
      refine ⟨found.length + k, by omega, (x.2.2, waysIn h ships x.2.2 lat), ?_, rfl⟩
      rw [List.getElem?_append_right (by omega), Nat.add_sub_cancel_left]
      unfold newOf
      rw [List.getElem?_map, hk]
      rfl
  · rw [List.getElem?_append_right (by omega)] at e
    unfold newOf at e
    rw [List.getElem?_map] at e
    cases z : layer[i - found.length]? with
    | none => rw [z] at e; cases e
    | some u =>
      rw [z] at e
      cases e
      refine ⟨hs _ (List.mem_of_getElem? z), rfl, fun x hx => .inr ?_⟩
      unfold laterOf
      refine (foldAdd_mem _).mpr (.inr (List.mem_flatMap.mpr ⟨_, List.mem_of_getElem? z, List.mem_map.mpr ⟨x, hx, rfl⟩⟩))
structure Full (h : Harb) (ships : List Ship) (st : Sta) (lat : Lat) (f : Found) : Prop where
  good : GoodF h ships lat f []
  nd : (f.map (·.1)).Nodup
  len : f.length ≤ 6528
  root : st ∈ f.map (·.1)
theorem full_go {h : Harb} {ships : List Ship} {st : Sta} {lat : Lat} (w : Wd h ships) : ∀ (m : Nat) (t : Int) (found : Found) (layer : List Sta), LInv h ships st lat m t found layer → GoodF h ships lat found layer → (st ∈ found.map (·.1) ∨ st ∈ layer) → Full h ships st lat (grownGo h ships lat m found layer)
  | 0, t, found, layer, I, g, r => by
    have e : layer = [] := by
      cases layer with
      | nil => rfl
      | cons s l =>
        have h1 := (I.ly s (.head _)).1.h1
        have h2 := (I.ly s (.head _)).2
        have := I.me
        omega
    subst e
    exact ⟨g, I.nf, by have := I.sz; show found.length ≤ 6528; omega, r.elim id fun z => (nomatch z)⟩
  | m + 1, t, found, layer, I, g, r => by
    by_cases ne : layer = []
    · subst ne
      rw [grownGo_nil]
      exact ⟨g, I.nf, by have := I.sz; omega, r.elim id fun z => (nomatch z)⟩
    · obtain ⟨m', e, I'⟩ := I.step w ne
      cases e
      refine full_go w m (t + 1) _ _ I' (g.step fun s hs => (I.ly s hs).1) (.inl ?_)
      rw [List.map_append, List.mem_append]
      exact r.imp id fun z => (newOf_keys h ships lat layer).symm ▸ z
theorem full_of {h : Harb} {ships : List Ship} {st : Sta} {lat : Lat} (w : Wd h ships) (s : Stt h ships st) : Full h ships st lat (grownOf h ships st lat) :=
  full_go w _ st.1 [] [st] (.start w s) ⟨fun i s ws e => by simp at e⟩ (.inr (.head _))
theorem restOf_eq {h : Harb} {ships : List Ship} {lat : Lat} {s : Sta} (w : Wd h ships) (t : Stt h ships s) : restOf h ships s lat = if isEnd s.2 then some 0 else leastOf ((waysIn h ships s lat).map fun x => addedOf x.2.1 (restOf h ships x.2.2 lat)) := by
  have h1 := t.h1
  obtain ⟨k, hk⟩ : ∃ k, fuelOf h s = k + 1 := ⟨fuelOf h s - 1, by unfold fuelOf; omega⟩
  unfold restOf
  rw [hk]
  show (if isEnd s.2 then some 0 else leastOf ((waysIn h ships s lat).map fun w => addedOf w.2.1 (restF h ships lat k w.2.2))) = _
  congr 2
  refine List.map_congr_left fun x hx => ?_
  have e : fuelOf h x.2.2 = k := by
    have := (ways_stt w t x hx).2.1
    unfold fuelOf at hk ⊢
    omega
  rw [e]
section
variable {P : Program} {w : World} {K : PySem.W.Frag} {mg : Str → Option Value} {base : Heap}
/-- what rests_in asks of its argument -/
structure Rin (found : Found) (val : Sta → Option Int) : Prop where
  nd : (found.map (·.1)).Nodup
  len : found.length ≤ 6528
  pl : ∀ p ∈ found, p.1.2.length < 100 ∧ p.2.length ≤ 100
  en : ∀ p ∈ found, isEnd p.1.2 = true → val p.1 = some 0
  ne : ∀ (i : Nat) (s : Sta) (ws : List Way), found[i]? = some (s, ws) → isEnd s.2 = false → (∀ x ∈ ws, ∃ j : Nat, i < j ∧ ∃ q : Sta × List Way, found[j]? = some q ∧ q.1 = x.2.2) ∧ val s = leastOf (ws.map fun (x : Way) => addedOf x.2.1 (val x.2.2))
def restsD (found : Found) (val : Sta → Option Int) : List (Sta × Option Int) := found.reverse.map fun p => (p.1, val p.1)
def A37 (P : Program) (w : World) (K : PySem.W.Frag) (y : Found × (Sta → Option Int)) (B : Hp) (vs : List V) : Prop := Rin y.1 y.2 ∧ ∃ v, vs = [v] ∧ IsDict P w K (foundD y.1) B v
theorem dn37 (T : Txt K mg) : Dn P w K mg base CX0 2 "rests_in" ["found"] (SpP (A37 P w K) fun y => IsDict P w K (kvsOf eOpt (restsD y.1 y.2))) :=
  dn_of T.f37 sc37 (fun _ _ _ _ _ _ us hl => match us, hl with | [_], _ => rfl) (fun y B vs h => by obtain ⟨_, v, rfl, _⟩ := h; rfl) fun f cdv A0 outer s H vs E y B Q hr sb ha q => by
    obtain ⟨found, val⟩ := y
    obtain ⟨ri, v1, rfl, r1⟩ := ha
    change Rin found val at ri
    change IsDict P w K (foundD found) B v1 at r1
    refine ws_cons (ws_dnew 1 (fun F hF nsF => ?_) sc37.nd)
    have A0' : DAcc P w K B H F [] B (upd H F (dO P w F [])) := DAcc.newIn (Gr.rfl sb) hF nsF
    have ek : (keysD (foundD found)).reverse = ((found.reverse).map (·.1)).map eSta := by
      unfold foundD
      rw [keysD_of, List.map_reverse, List.map_reverse]
    refine ws_cons (ws_forB (l := (found.reverse).map (·.1)) (enc := eSta) rfl ?_ A0'.bh fun B3 H3 g3 => ?_)
    · rw [← ek]
      exact xi_rev rfl T.b_reversed (x_listN rfl rfl T.b_list (x_var 0 rfl r1))
    · refine ⟨fun i σ' B' H' => (∃ x2 x3 x4 x5, σ' = [some v1, some (.ref F), x2, x3, x4, x5]) ∧ DAcc P w K B H F (kvsOf eOpt ((restsD found val).take i)) B' H' ∧ Same B3 B',
        ⟨⟨_, _, _, _, rfl⟩, A0'.step g3, .refl _⟩, fun i σ' B' H' h => ⟨h.2.2, h.2.1.bh⟩, ?_, ?_⟩
      · rintro i sv v σ' B' H' B4 H4 ea ⟨⟨x2, x3, x4, x5, rfl⟩, aF, sB⟩ g4 dv
        have aF4 := aF.step g4
        have s4 := aF4.gr.bb
        obtain ⟨ws, er⟩ : ∃ ws, found.reverse[i]? = some (sv, ws) := by
          rw [List.getElem?_map] at ea
          cases z : found.reverse[i]? with
          | none => rw [z] at ea; cases ea
          | some p =>
            rw [z] at ea
            obtain ⟨a, b⟩ := p
            cases ea
            exact ⟨b, rfl⟩
        have hi : i < found.length := by
          have := (List.getElem?_eq_some_iff.mp er).1
          rw [List.length_reverse] at this
          exact this
        have ef : found[found.length - 1 - i]? = some (sv, ws) := by
          rw [← er, List.getElem?_reverse hi]
        have hmem := List.mem_of_getElem? ef
        have eR : (restsD found val)[i]? = some (sv, val sv) := by
          unfold restsD
          rw [List.getElem?_map, er]
          rfl
        have eT : (restsD found val).take (i + 1) = (restsD found val).take i ++ [(sv, val sv)] := by
          rw [List.take_add_one, eR]
          rfl
        have ndR : ((restsD found val).map (·.1)).Nodup := by
          unfold restsD
          rw [List.map_map]
          show (found.reverse.map fun p => p.1).Nodup
          rw [List.map_reverse]
          exact List.pairwise_reverse.mpr (ri.nd.imp fun h => Ne.symm h)
        have fresh : sv ∉ ((restsD found val).take i).map (·.1) := by
          have n2 : (((restsD found val).take (i + 1)).map (·.1)).Nodup := by
            rw [List.map_take]
            exact ndR.sublist (List.take_sublist _ _)
          rw [eT, List.map_append, List.nodup_append] at n2
          exact fun z => n2.2.2 _ z _ (List.mem_singleton.mpr rfl) rfl
        have lR : (restsD found val).length = found.length := by
          unfold restsD
          rw [List.length_map, List.length_reverse]
        have lk : (kvsOf eOpt ((restsD found val).take i)).length ≤ 6528 := by
          rw [kvsOf_len, List.length_take]
          have := ri.len
          omega
        have hpl := ri.pl _ hmem
        have hwl : ws.length ≤ 100 := hpl.2
        have fin : ∀ (B' H1 : Hp) (o : HO), Same B3 B' → DAcc P w K B H F (kvPut (kvsOf eOpt ((restsD found val).take i)) (kSta sv) (eOpt (val sv))) B' (upd H1 F o) → DAcc P w K B H F (kvsOf eOpt ((restsD found val).take (i + 1))) B' (upd H1 F o) := fun B' H1 o _ a => by
          rw [kvPut_new fresh, ← eT] at a
          exact a
        refine ⟨_, xg_name 2 sc37.nd, ?_⟩
        refine ws_one (ws_if (t := isEnd sv.2) (xt_v (x_call (y := sv) (dn24 T) hr rfl (xa_cons (P0 := DD K _) (PL := DDs K []) (x_var 2 rfl dv) xd_nil (fun _ _ _ _ a b => ⟨hpl.1, .cons a b⟩)))) g4.bh ?_ ?_)
        · intro hc B5 H5 g5
          have aF5 := aF4.step g5
          have ev := ri.en _ hmem hc
          refine ws_one (ws_daccPut (d := eOpt (val sv)) (k := kSta sv) aF5 hF (un32 hr) (XE.at ?_ aF5.bh) (fun C _ => x_var 1 rfl rfl) (x_var 2 rfl (by rw [kSta_data]; exact Dq.up g5.bb _ _ dv)) (kSta_depth _) (kSta_tup _) (by rw [line_big]; omega) fun B7 H7 o g7 cF => ⟨B7, ⟨_, _, _, _, rfl⟩, fin _ _ _ (((sB.trans g4.bb).trans g5.bb).trans g7.bb) cF, ((sB.trans g4.bb).trans g5.bb).trans g7.bb⟩)
          rw [show val sv = some 0 from ev]
          exact x_int
        · intro hc B5 H5 g5
          have aF5 := aF4.step g5
          obtain ⟨hb, ev⟩ := ri.ne _ _ _ ef hc
          have s5 := s4.trans g5.bb
          have dv5 := Dq.up g5.bb _ _ dv
          obtain ⟨xs, e1, e2⟩ := aF5.ex
          have sU : Same B5 (upd B5 F (dO P w F xs)) := same_new aF5.lo
          have look : kvAt (foundD found) (kSta sv) = some (eWays ws) := by
            unfold foundD
            rw [kvAt_of, lookS_mem ri.nd hmem]
            rfl
          refine ws_one (ws_daccPut (d := eOpt (val sv)) (k := kSta sv) aF5 hF (un32 hr) (at_frozen (R := RawD P w F xs) ?_ aF5.bh e1 aF5.lo) (fun C _ => x_var 1 rfl rfl) (x_var 2 rfl (by rw [kSta_data]; exact dv5)) (kSta_depth _) (kSta_tup _) (by rw [line_big]; omega) fun B7 H7 o g7 cF => ⟨B7, ⟨_, _, _, _, rfl⟩, fin _ _ _ (((sB.trans g4.bb).trans g5.bb).trans g7.bb) cF, ((sB.trans g4.bb).trans g5.bb).trans g7.bb⟩)
          rw [ev]
          refine x_call (y := ws.map fun (x : Way) => addedOf x.2.1 (val x.2.2)) (dn35 T) hr rfl (xa_cons (P0 := DD K (eProm (ws.map fun (x : Way) => addedOf x.2.1 (val x.2.2)))) (PL := DDs K []) ?_ xd_nil (fun _ _ _ _ a b => ⟨by rw [List.length_map]; omega, .cons a b⟩))
          refine x_lcM (l := ws) (enc := eWay) (enc' := eOpt) (own := o37_0) (fun (x : Way) => addedOf x.2.1 (val x.2.2)) ?_ ?_ (by rw [line_big]; omega) rfl sc37.nd bk37_0
          · refine xi_list (x_dget (un32 hr) (x_var 0 rfl (Mono.up (s5.trans sU) r1)) (x_var 2 rfl (by rw [kSta_data]; exact Dq.up sU _ _ dv5)) (kSta_depth _) (kSta_tup _) look)
          · intro j x v' B' ej sb' hx
            obtain ⟨b, w1, w2, w3, rfl, hq, t1, t2, t3⟩ := tup3 hx
            obtain ⟨j', hj, ⟨sq, wq⟩, q1, q2⟩ := hb x (List.mem_of_getElem? ej)
            obtain rfl : sq = x.2.2 := q2
            have look2 : kvAt (kvsOf eOpt ((restsD found val).take i)) (kSta x.2.2) = some (eOpt (val x.2.2)) := by
              rw [kvAt_of, lookS_mem (b := val x.2.2) (by rw [List.map_take]; exact ndR.sublist (List.take_sublist _ _))]
              · rfl
              · have hj' := (List.getElem?_eq_some_iff.mp q1).1
                refine List.mem_iff_getElem?.mpr ⟨found.length - 1 - j', ?_⟩
                rw [List.getElem?_take_of_lt (by omega)]
                unfold restsD
                rw [List.getElem?_map, List.getElem?_reverse (by omega), show found.length - 1 - (found.length - 1 - j') = j' by omega, q1]
                rfl
            have sI : Same (upd B5 F (dO P w F xs)) B' := sb'
            apply lc_map
            · rintro XB ⟨_, _, _, _, _, rfl⟩
              refine ⟨xg_tup rfl hq (xgs_cons (xg_name 3 sc37.nd) (xgs_cons (xg_name 4 sc37.nd) (xgs_cons (xg_name 5 sc37.nd) xgs_nil))), ?_⟩
              refine x_call (y := (x.2.1, val x.2.2)) (dn36 T) hr rfl (xa_cons (P0 := DD K _) (PL := DDs K [_]) (x_var 4 rfl t2) (xd_cons (x_dget (un32 hr) (x_var 1 rfl ⟨F, xs, rfl, nsF, sI _ _ upd_same, (e2.up sU).up sI, by rw [line_big]; omega⟩) (x_var 5 rfl (by rw [kSta_data]; exact t3)) (kSta_depth _) (kSta_tup _) look2) xd_nil) (fun _ _ _ _ a b => .cons a b))
            · rfl
      · rintro σ' B' H' ⟨⟨x2, x3, x4, x5, rfl⟩, aF, sB⟩
        have lR : (restsD found val).length = found.length := by
          unfold restsD
          rw [List.length_map, List.length_reverse]
        rw [List.take_of_length_le (by rw [lR, List.length_map, List.length_reverse]; exact Nat.le_refl _)] at aF
        obtain ⟨B4, g4, p4, _⟩ := aF.done hF (by rw [kvsOf_len, lR, line_big]; have := ri.len; omega)
        exact ws_one (ws_ret (P := IsDict P w K (kvsOf eOpt (restsD found val))) (x_var 1 rfl p4) g4.bh fun v' B5 H5 g5 p5 => q v' B5 H5 (g4.trans g5) p5)
end
end TW
/-! W9: rest_of, ways_on, best_moves, is_end, has_way, kept_alone, way_on. -/
namespace TW
open PySem PySem.Spec PyProof.Rows L2
/-! ### plain -/
theorem rin_of {h : Harb} {ships : List Ship} {st : Sta} {lat : Lat} (w : Wd h ships) (F : Full h ships st lat (grownOf h ships st lat)) : Rin (grownOf h ships st lat) (fun s => restOf h ships s lat) := by
  refine ⟨F.nd, F.len, fun p hp => ?_, fun p hp he => ?_, fun i s ws e he => ?_⟩
  · obtain ⟨i, hi⟩ := List.mem_iff_getElem?.mp hp
    obtain ⟨h1, h2, _⟩ := F.good.at' i p.1 p.2 hi
    have := w.sn
    refine ⟨by rw [h1.pl]; omega, ?_⟩
    rw [h2]
    have := ways_len (lat := lat) (s := p.1) w
    omega
  · obtain ⟨i, hi⟩ := List.mem_iff_getElem?.mp hp
    obtain ⟨h1, _, _⟩ := F.good.at' i p.1 p.2 hi
    show restOf h ships p.1 lat = _
    rw [restOf_eq w h1, if_pos he]
  · obtain ⟨h1, h2, h3⟩ := F.good.at' i s ws e
    refine ⟨fun x hx => (h3 x hx).elim id fun z => (nomatch z), ?_⟩
    show restOf h ships s lat = _
    rw [restOf_eq w h1, he, h2]
    rfl
theorem restsD_at {f : Found} {val : Sta → Option Int} (r : Rin f val) {s : Sta} (hs : s ∈ f.map (·.1)) : kvAt (kvsOf eOpt (restsD f val)) (kSta s) = some (eOpt (val s)) := by
  rw [kvAt_of, lookS_mem (b := val s)]
  · rfl
  · unfold restsD
    rw [List.map_map]
    show (f.reverse.map fun p => p.1).Nodup
    rw [List.map_reverse]
    exact List.pairwise_reverse.mpr (r.nd.imp fun h => Ne.symm h)
  · obtain ⟨p, hp, rfl⟩ := List.mem_map.mp hs
    exact List.mem_map.mpr ⟨p, List.mem_reverse.mpr hp, rfl⟩
theorem foundD_at {f : Found} {val : Sta → Option Int} (r : Rin f val) {s : Sta} {ws : List Way} (hs : (s, ws) ∈ f) : kvAt (foundD f) (kSta s) = some (eWays ws) := by
  unfold foundD
  rw [kvAt_of, lookS_mem r.nd hs]
  rfl
theorem full_root {h : Harb} {ships : List Ship} {st : Sta} {lat : Lat} {f : Found} (F : Full h ships st lat f) : (st, waysIn h ships st lat) ∈ f ∧ ∀ x ∈ waysIn h ships st lat, x.2.2 ∈ f.map (·.1) := by
  obtain ⟨p, hp, e⟩ := List.mem_map.mp F.root
  obtain ⟨s, ws⟩ := p
  obtain rfl : s = st := e
  obtain ⟨i, hi⟩ := List.mem_iff_getElem?.mp hp
  obtain ⟨h1, h2, h3⟩ := F.good.at' i s ws hi
  rw [← h2]
  refine ⟨hp, fun x hx => ?_⟩
  rcases h3 x hx with ⟨j, _, q, e1, e2⟩ | z
  · rw [← e2]
    exact List.mem_map.mpr ⟨q, List.mem_of_getElem? e1, rfl⟩
  · cases z
theorem leastOf_some {l : List (Option Int)} (h : leastOf l ≠ none) : leastOf l ∈ l := by
  unfold leastOf at h ⊢
  cases hm : (l.filterMap id).min? with
  | none => exact absurd hm h
  | some m =>
    obtain ⟨o, h1, h2⟩ := List.mem_filterMap.mp (List.min?_eq_some_iff.mp hm).1
    rw [show o = some m from h2] at h1
    exact h1
theorem waysOn_ne {h : Harb} {ships : List Ship} {st : Sta} {lat : Lat} (w : Wd h ships) (t : Stt h ships st) (he : isEnd st.2 = false) (hr : restOf h ships st lat ≠ none) : ∃ x r, waysOn h ships st lat = x :: r ∧ x ∈ waysIn h ships st lat ∧ restOf h ships x.2.2 lat ≠ none := by
  have e : waysOn h ships st lat = (waysIn h ships st lat).filter fun x => decide (addedOf x.2.1 (restOf h ships x.2.2 lat) = restOf h ships st lat) := by
    unfold waysOn
    rw [if_neg hr]
  have hz := restOf_eq (lat := lat) w t
  rw [he] at hz
  have hz' : restOf h ships st lat = leastOf ((waysIn h ships st lat).map fun x => addedOf x.2.1 (restOf h ships x.2.2 lat)) := hz
  have hm := leastOf_some (hz' ▸ hr)
  rw [← hz'] at hm
  obtain ⟨y, hy, ey⟩ := List.mem_map.mp hm
  have ym : y ∈ waysOn h ships st lat := by
    rw [e]
    exact List.mem_filter.mpr ⟨hy, decide_eq_true ey⟩
  cases hw : waysOn h ships st lat with
  | nil =>
    rw [hw] at ym
    cases ym
  | cons x r =>
    refine ⟨x, r, rfl, ?_⟩
    have hx : x ∈ waysOn h ships st lat := by
      rw [hw]
      exact .head _
    rw [e] at hx
    obtain ⟨h1, h2⟩ := List.mem_filter.mp hx
    refine ⟨h1, fun z => hr ?_⟩
    rw [← of_decide_eq_true h2, z]
    rfl
section
variable {P : Program} {w : World} {K : PySem.W.Frag} {mg : Str → Option Value} {base : Heap}
theorem dn38 (T : Txt K mg) : DnK P w K mg base CX0 6 "rest_of" ["harbour", "ships", "state", "latest"] 3 ["latest"] (SpP (A34 K) fun y => DD K (eOpt (restOf y.1 y.2.1 y.2.2.1 y.2.2.2))) :=
  dnk_of 3 ["latest"] T.f38 sc38 (fun _ _ _ _ _ _ us ws hl h2 => match us, hl, ws, h2 with | [_, _, _], _, [_], _ => rfl) (fun y B vs h => h.2.length) fun f cdv A0 outer s H vs E y B Q hr sb ha q => by
    obtain ⟨hd, ships, st, lat⟩ := y
    obtain ⟨⟨wd, stt, h1⟩, hv⟩ := ha
    change Wd hd ships at wd
    change Stt hd ships st at stt
    change lat.length = ships.length at h1
    obtain ⟨v1, v2, v3, v4, rfl, r1, r2, r3, r4⟩ := inv4 hv
    have F := full_of (lat := lat) wd stt
    have R := rin_of wd F
    refine ws_one (ws_ret (P := DD K (eOpt (restOf hd ships st lat))) ?_ sb q)
    refine x_dget (kvs := kvsOf eOpt (restsD (grownOf hd ships st lat) fun s => restOf hd ships s lat)) (k := kSta st) (un32 hr) ?_ (x_var 2 rfl (by rw [kSta_data]; exact r3)) (kSta_depth _) (kSta_tup _) (restsD_at R F.root)
    refine x_call (y := (grownOf hd ships st lat, fun s => restOf hd ships s lat)) (dn37 T) (hr.mono (by decide)) rfl (xa_cons (P0 := IsDict P w K (foundD (grownOf hd ships st lat))) (PL := DDs K []) ?_ xd_nil (fun C v vs _ a b => ⟨R, v, by rw [inv0 b], a⟩))
    exact x_call (y := (hd, ships, st, lat)) (dn34 T) hr rfl (xa_cons (P0 := DD K _) (PL := DDs K [_, _, _]) (x_var 0 rfl r1) (xd_cons (x_var 1 rfl r2) (xd_cons (x_var 2 rfl r3) (xd_cons (x_var 3 rfl r4) xd_nil))) (fun _ _ _ _ a b => ⟨⟨wd, stt, h1⟩, .cons a b⟩))
theorem eqv_opt (a b : Option Int) : PyData.eqv (eOpt a) (eOpt b) = decide (a = b) := by
  cases a <;> cases b <;> simp [eOpt, PyData.eqv] <;> rfl
theorem shaped_opt (a : Option Int) : SeqAt.shaped (eOpt a) = true := by cases a <;> rfl
theorem c_eqO {X : Cx} {p q : Option Int} (hu : X.A.units + 64 < cLine) : CmpOk X .Eq (eOpt p) (eOpt q) (decide (p = q)) := by
  have z := c_eq (X := X) hu (shaped_opt p) (shaped_opt q)
  rw [eqv_opt] at z
  exact z
/-- ways_on's answer -/
def onOf (val : Sta → Option Int) (s : Sta) (ws : List Way) : List Way := if val s = none then [] else ws.filter fun x => decide (addedOf x.2.1 (val x.2.2) = val s)
def A39 (P : Program) (w : World) (K : PySem.W.Frag) (y : Found × (Sta → Option Int) × Sta × List Way) (B : Hp) (vs : List V) : Prop :=
  (Rin y.1 y.2.1 ∧ (y.2.2.1, y.2.2.2) ∈ y.1 ∧ ∀ x ∈ y.2.2.2, x.2.2 ∈ y.1.map (·.1)) ∧ ∃ v1 v2 v3, vs = [v1, v2, v3] ∧ IsDict P w K (foundD y.1) B v1 ∧ IsDict P w K (kvsOf eOpt (restsD y.1 y.2.1)) B v2 ∧ Dq K B v3 (eSta y.2.2.1)
theorem dn39 (T : Txt K mg) : Dn P w K mg base CX0 2 "ways_on" ["found", "rests", "state"] (SpP (A39 P w K) fun y => DD K (eWays (onOf y.2.1 y.2.2.1 y.2.2.2))) :=
  dn_of T.f39 sc39 (fun _ _ _ _ _ _ us hl => match us, hl with | [_, _, _], _ => rfl) (fun y B vs h => by obtain ⟨_, _, _, _, rfl, _⟩ := h; rfl) fun f cdv A0 outer s H vs E y B Q hr sb ha q => by
    obtain ⟨found, val, st, ws⟩ := y
    obtain ⟨⟨ri, hm, hb⟩, v1, v2, v3, rfl, r1, r2, r3⟩ := ha
    change Rin found val at ri
    change (st, ws) ∈ found at hm
    change ∀ x ∈ ws, x.2.2 ∈ found.map (·.1) at hb
    change IsDict P w K (foundD found) B v1 at r1
    change IsDict P w K (kvsOf eOpt (restsD found val)) B v2 at r2
    change Dq K B v3 (eSta st) at r3
    have hst : st ∈ found.map (·.1) := List.mem_map.mpr ⟨_, hm, rfl⟩
    have hwl : ws.length ≤ 100 := (ri.pl _ hm).2
    refine ws_cons (ws_if (t := (match eOpt (val st) with | .none => true | _ => false)) (xt_cmp c_isN (x_dget (un32 hr) (x_var 1 rfl r2) (x_var 2 rfl (by rw [kSta_data]; exact r3)) (kSta_depth _) (kSta_tup _) (restsD_at ri hst)) x_non) sb ?_ ?_)
    · intro hc B1 H1 g1
      have e : onOf val st ws = [] := by
        unfold onOf
        cases hz : val st with
        | none => rfl
        | some i => rw [hz] at hc; cases hc
      refine ws_one (ws_ret (P := DD K (.list [])) (x_lst xd_nil) g1.bh fun v' B3 H3 g3 p3 => q v' B3 H3 (g1.trans g3) ?_)
      show Dq K B3 v' (eWays (onOf val st ws))
      rw [e]
      exact p3
    · intro hc B1 H1 g1
      have e : onOf val st ws = ws.filterMap fun x => if decide (addedOf x.2.1 (val x.2.2) = val st) = true then some x else none := by
        unfold onOf
        rw [if_neg, ← List.filterMap_eq_filter]
        · congr 1
        · intro z
          rw [z] at hc
          cases hc
      have r1' := Mono.up (P := IsDict P w K (foundD found)) g1.bb r1
      have r2' := Mono.up (P := IsDict P w K (kvsOf eOpt (restsD found val))) g1.bb r2
      have r3' := Dq.up g1.bb _ _ r3
      refine ws_nil (ws_one (ws_ret (P := DD K (eWays (onOf val st ws))) ?_ g1.bh fun v' B3 H3 g3 p3 => q v' B3 H3 (g1.trans g3) p3))
      rw [e]
      refine x_lc (l := ws) (enc := eWay) (enc' := eWay) (own := o39_0) ?_ (fun x => if decide (addedOf x.2.1 (val x.2.2) = val st) = true then some x else none) ?_ (by rw [line_big]; omega) rfl sc39.nd bk39_0
      · exact xi_list (x_dget (un32 hr) (x_var 0 rfl r1') (x_var 2 rfl (by rw [kSta_data]; exact r3')) (kSta_depth _) (kSta_tup _) (foundD_at ri hm))
      · intro j x v' B' ej sb' hx
        have hxb := hb x (List.mem_of_getElem? ej)
        apply lc_turn
        · rintro XB ⟨_, _, _, _, _, rfl⟩
          refine ⟨xg_name 3 sc39.nd, xts_one (XT.is (xt_cmp (c_eqO (un64 hr)) (x_call (y := (x.2.1, val x.2.2)) (dn36 T) (hr.mono (by decide)) rfl (xa_cons (P0 := DD K _) (PL := DDs K [_]) (x_ixT (x_var 3 rfl hx) x_int rfl) (xd_cons (x_dget (un32 hr) (x_var 1 rfl (Mono.up (P := IsDict P w K (kvsOf eOpt (restsD found val))) sb' r2')) (show XE _ _ _ _ (DD K (kSta x.2.2).data) from by rw [kSta_data]; exact x_ixT (x_var 3 rfl hx) x_int rfl) (kSta_depth _) (kSta_tup _) (restsD_at ri hxb)) xd_nil) (fun _ _ _ _ a b => .cons a b)))
            (x_dget (un32 hr) (x_var 1 rfl (Mono.up (P := IsDict P w K (kvsOf eOpt (restsD found val))) sb' r2')) (x_var 2 rfl (by rw [kSta_data]; exact Dq.up sb' _ _ r3')) (kSta_depth _) (kSta_tup _) (restsD_at ri hst))) ?_), fun r hr' => ?_⟩
          · rw [isSome_if]
            simp
          · obtain ⟨_, rfl⟩ : _ ∧ x = r := by simpa using hr'
            exact x_var 3 rfl hx
        · rfl
theorem dn40 (T : Txt K mg) : DnK P w K mg base CX0 6 "best_moves" ["harbour", "ships", "state", "latest"] 3 ["latest"] (SpP (A34 K) fun y => DD K (eMvs (bestMoves y.1 y.2.1 y.2.2.1 y.2.2.2))) :=
  dnk_of 3 ["latest"] T.f40 sc40 (fun _ _ _ _ _ _ us ws hl h2 => match us, hl, ws, h2 with | [_, _, _], _, [_], _ => rfl) (fun y B vs h => h.2.length) fun f cdv A0 outer s H vs E y B Q hr sb ha q => by
    obtain ⟨hd, ships, st, lat⟩ := y
    obtain ⟨⟨wd, stt, h1⟩, hv⟩ := ha
    change Wd hd ships at wd
    change Stt hd ships st at stt
    change lat.length = ships.length at h1
    obtain ⟨v1, v2, v3, v4, rfl, r1, r2, r3, r4⟩ := inv4 hv
    have F := full_of (lat := lat) wd stt
    have R := rin_of wd F
    have rt := full_root F
    refine ws_cons (ws_set (P := IsDict P w K (foundD (grownOf hd ships st lat))) 4 (x_call (y := (hd, ships, st, lat)) (dn34 T) hr rfl (xa_cons (P0 := DD K _) (PL := DDs K [_, _, _]) (x_var 0 rfl r1) (xd_cons (x_var 1 rfl r2) (xd_cons (x_var 2 rfl r3) (xd_cons (x_var 3 rfl r4) xd_nil))) (fun _ _ _ _ a b => ⟨⟨wd, stt, h1⟩, .cons a b⟩))) sb (fun fv B1 H1 g1 p1 => ?_) (hN := sc40.nd))
    refine ws_one (ws_ret (P := DD K (eMvs (bestMoves hd ships st lat))) ?_ g1.bh fun v' B3 H3 g3 p3 => q v' B3 H3 (g1.trans g3) p3)
    have el : (waysOn hd ships st lat).length ≤ 9 := by
      have := ways_len (lat := lat) (s := st) wd
      unfold waysOn
      split
      · simp
      · exact Nat.le_trans (List.length_filter_le ..) this
    have eo : onOf (fun s => restOf hd ships s lat) st (waysIn hd ships st lat) = waysOn hd ships st lat := rfl
    refine x_lcM (l := waysOn hd ships st lat) (enc := eWay) (enc' := ePls) (own := o40_0) (fun x => x.1) ?_ ?_ (by rw [line_big]; omega) rfl sc40.nd bk40_0
    · rw [← eo]
      refine xi_list (x_call (y := (grownOf hd ships st lat, fun s => restOf hd ships s lat, st, waysIn hd ships st lat)) (dn39 T) (hr.mono (by decide)) rfl (XA.imp (P := PCons (IsDict P w K (foundD (grownOf hd ships st lat))) (PCons (IsDict P w K (kvsOf eOpt (restsD (grownOf hd ships st lat) fun s => restOf hd ships s lat))) (PCons (DD K (eSta st)) PNil))) (xp_cons (x_var 4 rfl p1) (xp_cons ?_ (xp_cons (x_var 2 rfl (Dq.up g1.bb _ _ r3)) xp_nil))) ?_))
      · refine x_call (y := (grownOf hd ships st lat, fun s => restOf hd ships s lat)) (dn37 T) (hr.mono (by decide)) rfl (XA.imp (P := PCons (IsDict P w K (foundD (grownOf hd ships st lat))) PNil) (xp_cons (x_var 4 rfl p1) xp_nil) ?_)
        rintro C vs _ ⟨v, r, rfl, a, b⟩
        obtain rfl : r = [] := b
        exact ⟨R, v, rfl, a⟩
      · rintro C vs _ ⟨v, r, rfl, a, u1, r, rfl, b, u2, r, rfl, c, d⟩
        obtain rfl : r = [] := d
        exact ⟨⟨R, rt.1, rt.2⟩, v, u1, u2, rfl, a, b, c⟩
    · intro j x v' B' ej sb' hx
      obtain ⟨b, w1, w2, w3, rfl, hq, t1, t2, t3⟩ := tup3 hx
      apply lc_map
      · rintro XB ⟨_, _, _, _, _, rfl⟩
        exact ⟨xg_tup rfl hq (xgs_cons (xg_name 5 sc40.nd) (xgs_cons (xg_name 6 sc40.nd) (xgs_cons (xg_name 7 sc40.nd) xgs_nil))), x_var 5 rfl t1⟩
      · rfl
end
end TW
/-! W10: is_end, has_way, kept_alone, way_on. -/
namespace TW
open PySem PySem.Spec PyProof.Rows L2
/-! ### plain -/
theorem best_head {h : Harb} {ships : List Ship} {st : Sta} {lat : Lat} (w : Wd h ships) (t : Stt h ships st) (he : isEnd st.2 = false) (hr : restOf h ships st lat ≠ none) :
    ∃ m, (bestMoves h ships st lat).head? = some m ∧ (bestMoves h ships st lat).headD [] = m ∧ MvOk ships m ∧ m.length ≤ 2 ∧ Stt h ships (afterMoves ships st m) ∧ st.1 ≤ h.last ∧ restOf h ships (afterMoves ships st m) lat ≠ none := by
  obtain ⟨x, r, e, hx, hn⟩ := waysOn_ne w t he hr
  obtain ⟨m, hm, rfl⟩ := List.mem_map.mp hx
  have k1 := (movesIn_ok (h := h) (ships := ships) (st := st) (lat := lat) w.bn w.sn).2 m hm
  have k2 := ways_stt w t _ hx
  refine ⟨m, ?_, ?_, k1.2, k1.1, k2.1, k2.2.2, hn⟩ <;> (unfold bestMoves; rw [e]; rfl)
section
variable {P : Program} {w : World} {K : PySem.W.Frag} {mg : Str → Option Value} {base : Heap}
theorem dn45 (T : Txt K mg) : Dn P w K mg base CX0 1 "is_end_console" ["here"] (SpP (A24 K) fun y => DD K (.bool (isEnd y.2))) :=
  dn_of T.f45 sc45 (fun _ _ _ _ _ _ us hl => match us, hl with | [_], _ => rfl) (fun y B vs h => h.2.length) fun f cdv A0 outer s H vs E y B Q hr sb ha q => by
    obtain ⟨h0, hv⟩ := ha
    obtain ⟨v1, rfl, r1⟩ := inv1 hv
    refine ws_one (ws_ret (P := DD K (.bool (isEnd y.2))) ?_ sb q)
    have e : isEnd y.2 = (y.2.map fun p => decide (p = GONE)).all id := by
      unfold isEnd
      rw [List.all_map]
      rfl
    rw [e]
    refine x_all rfl rfl T.b_all ?_
    refine x_lcM (l := y.2) (enc := ePair) (own := o45_0) _ (xi_tup (x_ixT (x_var 0 rfl r1) x_int rfl)) ?_ ?_ rfl sc45.nd bk45_0
    · intro i a v B' ea sb' hd
      apply lc_map
      · rintro XB ⟨_, _, _, _, _, rfl⟩
        refine ⟨xg_name 1 sc45.nd, ?_⟩
        exact x_cmp (c_eqP (un64 hr)) (x_var 1 rfl hd) (x_con T.c_GONE_console rfl)
      · rfl
    · rw [line_big]
      omega
theorem isN_opt (o : Option Int) : (match eOpt o with | .none => false | _ => true) = o.isSome := by cases o <;> rfl
theorem dn47 (T : Txt K mg) : Dn P w K mg base CX0 7 "has_way" ["harbour", "ships", "here", "promises"] (SpP (A34 K) fun y => DD K (.bool (hasWay y.1 y.2.1 y.2.2.1 y.2.2.2))) :=
  dn_of T.f47 sc47 (fun _ _ _ _ _ _ us hl => match us, hl with | [_, _, _, _], _ => rfl) (fun y B vs h => h.2.length) fun f cdv A0 outer s H vs E y B Q hr sb ha q => by
    obtain ⟨hd, ships, st, lat⟩ := y
    obtain ⟨⟨wd, stt, h1⟩, hv⟩ := ha
    change Wd hd ships at wd
    change Stt hd ships st at stt
    change lat.length = ships.length at h1
    obtain ⟨v1, v2, v3, v4, rfl, r1, r2, r3, r4⟩ := inv4 hv
    refine ws_one (ws_ret (P := DD K (.bool (hasWay hd ships st lat))) ?_ sb q)
    unfold hasWay
    rw [← isN_opt]
    exact x_cmp c_notN (x_callK (y := (hd, ships, st, lat)) (dn38 T) hr rfl (xd_cons (x_var 0 rfl r1) (xd_cons (x_var 1 rfl r2) (xd_cons (x_var 2 rfl r3) xd_nil))) (x_var 3 rfl r4) (fun C vs v _ a b => ⟨⟨wd, stt, h1⟩, a.app (.one b)⟩) rfl rfl) x_non
def A48 (K : PySem.W.Frag) (y : Lat × List Int) (B : Hp) (vs : List V) : Prop := (y.1.length ≤ 100) ∧ DqAll K B vs [eProm y.1, eInts y.2]
theorem dn48 (T : Txt K mg) : Dn P w K mg base CX0 1 "kept_alone" ["promises", "names"] (SpP (A48 K) fun y => DD K (eProm (keptAlone y.1 y.2))) :=
  dn_of T.f48 sc48 (fun _ _ _ _ _ _ us hl => match us, hl with | [_, _], _ => rfl) (fun y B vs h => h.2.length) fun f cdv A0 outer s H vs E y B Q hr sb ha q => by
    obtain ⟨pr, ns⟩ := y
    obtain ⟨h0, hv⟩ := ha
    change pr.length ≤ 100 at h0
    obtain ⟨v1, v2, rfl, r1, r2⟩ := inv2 hv
    refine ws_one (ws_ret (P := DD K (eProm (keptAlone pr ns))) ?_ sb q)
    refine x_lcM (l := pr.zipIdx) (enc := fun p => .tuple [.int (p.2 : Int), eOpt p.1]) (enc' := eOpt) (own := o48_0) _ ?_ ?_ ?_ rfl sc48.nd bk48_0
    · rw [← enD_map]
      exact xi_enum rfl T.b_enumerate (x_var 0 rfl r1)
    · intro i a v B' ea sb' hd
      obtain ⟨l, u1, u2, rfl, hq, q1, q2⟩ := tup2 hd
      apply lc_map
      · rintro XB ⟨_, _, _, _, _, rfl⟩
        refine ⟨xg_tup rfl hq (xgs_cons (xg_name 2 sc48.nd) (xgs_cons (xg_name 3 sc48.nd) xgs_nil)), ?_⟩
        refine x_if (t := decide ((a.2 : Int) ∈ ns)) (xt_cmp c_in (x_var 2 rfl q1) (x_var 1 rfl (Dq.up sb' _ _ r2))) (fun hc => ?_) fun hc => ?_
        · rw [if_pos (of_decide_eq_true hc)]
          exact x_var 3 rfl q2
        · rw [if_neg (of_decide_eq_false hc)]
          exact x_non
      · rfl
    · rw [List.length_zipIdx, line_big]
      omega
def eWayRows (l : List Trip) : PyData := .list (l.map eTrip)
def A50 (K : PySem.W.Frag) (y : Harb × List Ship × Sta × Lat) (B : Hp) (vs : List V) : Prop := (Wd y.1 y.2.1 ∧ Stt y.1 y.2.1 y.2.2.1 ∧ y.2.2.2.length = y.2.1.length ∧ hasWay y.1 y.2.1 y.2.2.1 y.2.2.2 = true) ∧ DqAll K B vs [eHarb y.1, eShips y.2.1, eSta y.2.2.1, eProm y.2.2.2]
theorem dn50 (T : Txt K mg) : Dn P w K mg base CX0 7 "way_on" ["harbour", "ships", "here", "promises"] (SpP (A50 K) fun y => DD K (eTrips (wayOn y.1 y.2.1 y.2.2.1 y.2.2.2))) :=
  dn_of T.f50 sc50 (fun _ _ _ _ _ _ us hl => match us, hl with | [_, _, _, _], _ => rfl) (fun y B vs h => h.2.length) fun f cdv A0 outer s H vs E y B Q hr sb ha q => by
    obtain ⟨hd, ships, st, lat⟩ := y
    obtain ⟨⟨wd, stt, h1, hw⟩, hv⟩ := ha
    change Wd hd ships at wd
    change Stt hd ships st at stt
    change lat.length = ships.length at h1
    change hasWay hd ships st lat = true at hw
    obtain ⟨v1, v2, v3, v4, rfl, r1, r2, r3, r4⟩ := inv4 hv
    have hrest : restOf hd ships st lat ≠ none := by
      unfold hasWay at hw
      intro z
      rw [z] at hw
      cases hw
    refine ws_cons (ws_newL 4 xd_nil sb (fun F vs B2 H2 g2 p2 hF => ?_) (hN := sc50.nd))
    obtain rfl := inv0 p2
    have hF' : H F = none := g2.hh.free hF
    have A0' : Acc K B H F [] B2 (upd H2 F (.lst [])) := ⟨g2.mut hF' (g2.bh.free hF), g2.bh.free hF, [], upd_same, .nil⟩
    have hla := wd.la
    have hs0 := stt.h0
    refine ws_cons (ws_while (fun m σ' H' => ∃ B' s acc hv x5 x6 x7, σ' = [some v1, some v2, some hv, some v4, some (.ref F), x5, x6, x7] ∧ Acc K B H F (acc.map eTrip) B' H' ∧ Dq K B' hv (eSta s) ∧ Stt hd ships s ∧ restOf hd ships s lat ≠ none ∧ (m : Int) = hd.last + 2 - s.1 ∧ acc ++ wayF hd ships lat m s = wayOn hd ships st lat ∧ acc.length + 2 * m ≤ 300)
      (fuelOf hd st) ?_ ?_)
    · refine ⟨B2, st, [], v3, _, _, _, rfl, A0', Dq.up g2.bb _ _ r3, stt, hrest, ?_, rfl, ?_⟩
      · have := stt.h1
        unfold fuelOf
        omega
      · unfold fuelOf
        show 0 + _ ≤ _
        omega
    · rintro m σ' H' ⟨B3, s, acc, hv, x5, x6, x7, rfl, ac, ph, st', rn, hm, hway, hsz⟩
      refine ⟨!isEnd s.2, B3, ac.bh, xt_not (xt_v (x_call (y := s) (dn45 T) (hr.mono (by decide)) rfl (xa_cons (P0 := DD K _) (PL := DDs K []) (x_var 2 rfl ph) xd_nil (fun _ _ _ _ a b => ⟨by rw [st'.pl]; have := wd.sn; omega, .cons a b⟩)))), fun hne B4 H4 g4 => ?_, fun hem B4 H4 g4 => ?_⟩
      · have he : isEnd s.2 = false := by simpa using hne
        obtain ⟨mv, hm1, hm2, mo, ml, sa, sl, ra⟩ := best_head (lat := lat) wd st' he rn
        obtain ⟨m', rfl⟩ : ∃ m', m = m' + 1 := ⟨m - 1, by omega⟩
        have ewf : wayF hd ships lat (m' + 1) s = (mv.map fun p => (s.1, p.1, p.2)) ++ wayF hd ships lat m' (afterMoves ships s mv) := by
          show (if isEnd s.2 = true then [] else _) = _
          rw [he, if_neg (by simp)]
          simp only [hm2]
        refine ⟨fun σ' H' => ∃ B' hv x5 x6 x7, σ' = [some v1, some v2, some hv, some v4, some (.ref F), x5, x6, x7] ∧ Acc K B H F ((acc ++ mv.map fun p => (s.1, p.1, p.2)).map eTrip) B' H' ∧ Dq K B' hv (eSta (afterMoves ships s mv)),
          fun σ2 H5 ⟨B5, hv5, y5, y6, y7, e, a, p⟩ => ⟨m', Nat.lt_succ_self _, B5, afterMoves ships s mv, _, hv5, y5, y6, y7, e, a, p, sa, ra, ?_, ?_, ?_⟩, ?_⟩
        · show (m' : Int) = hd.last + 2 - (s.1 + 1)
          omega
        · rw [List.append_assoc, ← ewf]
          exact hway
        · rw [List.length_append, List.length_map]
          omega
        · have ac4 := ac.step g4
          have s4 := ac4.gr.bb
          have hix : atI ((bestMoves hd ships s lat).map ePls) 0 = some (ePls mv) := by
            cases hb : bestMoves hd ships s lat with
            | nil => rw [hb] at hm1; cases hm1
            | cons a r =>
              rw [hb] at hm1
              cases hm1
              exact atI_map (d := ([] : Mv)) (by decide) (by rw [List.length_cons]; omega)
          refine ws_cons (ws_set (P := DD K (ePls mv)) 5 (x_ixL (x_callK (y := (hd, ships, s, lat)) (dn40 T) hr rfl (xd_cons (x_var 0 rfl (Dq.up s4 _ _ r1)) (xd_cons (x_var 1 rfl (Dq.up s4 _ _ r2)) (xd_cons (x_var 2 rfl (Dq.up g4.bb _ _ ph)) xd_nil))) (x_var 3 rfl (Dq.up s4 _ _ r4)) (fun C vs v _ a b => ⟨⟨wd, st', h1⟩, a.app (.one b)⟩) rfl rfl) x_int hix) g4.bh (fun mvv B5 H5 g5 p5 => ?_) (hN := sc50.nd))
          have ac5 := ac4.step g5
          have ph5 := Dq.up (g4.bb.trans g5.bb) _ _ ph
          refine ws_cons (ws_accExt (es := (mv.map fun p => (s.1, p.1, p.2)).map eTrip) ac5 hF' (fun C _ => x_var 4 rfl rfl) ?_ ?_ fun B6 H6 s6 a6 => ?_)
          · refine x_lcM (l := mv) (enc := ePair) (enc' := eTrip) (own := o50_0) (fun p => (s.1, p.1, p.2)) ?_ ?_ (by rw [line_big]; omega) rfl sc50.nd bk50_0
            · exact xi_tup (x_var 5 rfl p5)
            · intro i a v B' ea sb' hd'
              obtain ⟨l, u1, u2, rfl, hq, q1, q2⟩ := tup2 hd'
              apply lc_map
              · rintro XB ⟨_, _, _, _, _, rfl⟩
                exact ⟨xg_tup rfl hq (xgs_cons (xg_name 6 sc50.nd) (xgs_cons (xg_name 7 sc50.nd) xgs_nil)), x_tup (xd_cons (x_ixT (x_var 2 rfl (Dq.up sb' _ _ ph5)) x_int rfl) (xd_cons (x_var 6 rfl q1) (xd_cons (x_var 7 rfl q2) xd_nil)))⟩
              · rfl
          · rw [List.length_map, List.length_map, List.length_map, line_big]
            omega
          · have s6' := a6.gr.bb
            refine ws_one (ws_set (P := DD K (eSta (afterMoves ships s mv))) 2 (x_call (y := (ships, s, mv)) (dn32 T) (hr.mono (by decide)) rfl (xa_cons (P0 := DD K _) (PL := DDs K [_, _]) (x_var 1 rfl (Dq.up s6' _ _ r2)) (xd_cons (x_var 2 rfl (Dq.up s6 _ _ ph5)) (xd_cons (x_var 5 rfl (Dq.up s6 _ _ p5)) xd_nil)) (fun _ _ _ _ a b => ⟨⟨wd.sn, st'.pl, mo⟩, .cons a b⟩))) a6.bh (fun hv2 B7 H7 g7 p7 => ⟨B7, hv2, _, _, _, rfl, ?_, p7⟩) (hN := sc50.nd))
            rw [List.map_append]
            exact a6.step g7
      · have he : isEnd s.2 = true := by simpa using hem
        have ac4 := ac.step g4
        have ewf : wayF hd ships lat m s = [] := by
          cases m with
          | zero => rfl
          | succ m =>
            show (if isEnd s.2 = true then [] else _) = _
            rw [if_pos he]
        rw [ewf, List.append_nil] at hway
        obtain ⟨B5, g5, p5, _⟩ := ac4.done hF'
        refine ws_one (ws_ret (P := DD K (eTrips (wayOn hd ships st lat))) (x_var 4 rfl (by rw [← hway]; exact p5)) g5.bh fun v' B6 H6 g6 p6 => q v' B6 H6 (g5.trans g6) p6)
end
end TW
/-! WC: itertools.combinations(xs, r) of at most one item. -/
namespace TW
open PySem PySem.Spec PyProof.Rows L2 RZ
open Sem (wp)
theorem mro_cmb : mroOf (.type "itertools.combinations") = pure [.type "itertools.combinations", .type "object"] := by rw [mroOf_type]; kernel_rfl
theorem lookup_cmb_new : typeLookup (.type "itertools.combinations") "__new__" = pure (some (.builtin "itertools.combinations.__new__")) := by rw [typeLookup_type, builtinLookup_eq_fast]; kernel_rfl
theorem slot_cmb_init : Slot "itertools.combinations" "__init__" "object.__init__" :=
  .of (owner := "object") (n := "__init__") (by rw [typeLookup_type, builtinLookup_eq_fast]; kernel_rfl) (by decide +kernel) (by decide +kernel) (by decide +kernel)
    (by first | exact .inl (by decide +kernel) | exact .inr (by decide +kernel)) (by rw [isSubtype_type]; kernel_rfl)
theorem sub_cmb : isSubtype (.type "itertools.combinations") (.type "itertools.combinations") = pure true := by rw [isSubtype_type]; kernel_rfl
theorem called_cmb : TypeCalled "itertools.combinations" "itertools.combinations.__new__" "object.__init__" :=
  ⟨by decide +kernel, by decide +kernel, ⟨_, _, mro_cmb⟩, madeBy_type mro_cmb lookup_cmb_new (by decide +kernel), by decide +kernel, sub_cmb, slot_cmb_init⟩
theorem typeCall_cmb_2 (a b : Value) : checkTypeCall "itertools.combinations" ⟨[a, b], []⟩ = pure () := by kernel_rfl
theorem newCall_cmb_2 (a b : Value) : checkBuiltinCall "itertools.combinations.__new__" ⟨[.type "itertools.combinations", a, b], []⟩ = pure () := by kernel_rfl
theorem entry_cmb_new : entryFor table "itertools.combinations.__new__" = some Builtin.«itertools.combinations.__new__» := entryFor_of_tree (by kernel_rfl)
theorem slot_cmb_iter : Slot "itertools.combinations" "__iter__" "itertools.combinations.__iter__" :=
  .of (owner := "itertools.combinations") (n := "__iter__") (by rw [typeLookup_type, builtinLookup_eq_fast]; kernel_rfl) (by decide +kernel) (by decide +kernel) (by decide +kernel)
    (by first | exact .inl (by decide +kernel) | exact .inr (by decide +kernel)) sub_cmb
theorem slot_cmb_next : Slot "itertools.combinations" "__next__" "itertools.combinations.__next__" :=
  .of (owner := "itertools.combinations") (n := "__next__") (by rw [typeLookup_type, builtinLookup_eq_fast]; kernel_rfl) (by decide +kernel) (by decide +kernel) (by decide +kernel)
    (by first | exact .inl (by decide +kernel) | exact .inr (by decide +kernel)) sub_cmb
theorem entry_cmb_next : entryFor table "itertools.combinations.__next__" = some Builtin.«itertools.combinations.__next__» := entryFor_of_tree (by kernel_rfl)
theorem noDict_cmb : typeHasDict (.type "itertools.combinations") = false := by decide +kernel
theorem entry_cmb_iter : entryFor table "itertools.combinations.__iter__" = some Builtin.«dict_keyiterator.__iter__» :=
  entryFor_alias (id' := "dict_keyiterator.__iter__") (by kernel_rfl) (by first | rfl | decide +kernel | (unfold String.splitOn; simp +decide [String.splitOnAux])) (by decide +kernel) (by kernel_rfl)
theorem owner_cmb : Manifest.owners.lookup (String.ofList ['s', 'n', 'o', 'i', 't', 'a', 'n', 'i', 'b', 'm', 'o', 'c', '.', 's', 'l', 'o', 'o', 't', 'r', 'e', 't', 'i'].reverse) = some Manifest.sig_itertools_combinations := by kernel_rfl
theorem args_cmb_iter (a : Value) : argsOk "itertools.combinations.__iter__" ⟨[a], []⟩ := by
  unfold argsOk; rw [signature?_of (id := "itertools.combinations.__iter__") (n := ['_', '_', 'r', 'e', 't', 'i', '_', '_']) (o := ['s', 'n', 'o', 'i', 't', 'a', 'n', 'i', 'b', 'm', 'o', 'c', '.', 's', 'l', 'o', 'o', 't', 'r', 'e', 't', 'i']) (by kernel_rfl) owner_cmb]; kernel_rfl
theorem args_cmb_next (a : Value) : argsOk "itertools.combinations.__next__" ⟨[a], []⟩ := by
  unfold argsOk; rw [signature?_of (id := "itertools.combinations.__next__") (n := ['_', '_', 't', 'x', 'e', 'n', '_', '_']) (o := ['s', 'n', 'o', 'i', 't', 'a', 'n', 'i', 'b', 'm', 'o', 'c', '.', 's', 'l', 'o', 'o', 't', 'r', 'e', 't', 'i']) (by kernel_rfl) owner_cmb]; kernel_rfl
/-- its fields: with one index (0) or none -/
def combF (tp : Addr) (f : Int) (v : Value) : Bool → Array Value
  | false => #[.ref tp, rawInt f, v]
  | true => #[.ref tp, rawInt f, v, rawInt 0]
abbrev combO (tp : Addr) (f : Int) (v : Value) (b : Bool) : Obj := { cls := .type "itertools.combinations", dict := none, data := .fields (combF tp f v b), slots := #[] }
abbrev IsComb (h : Heap) (it tp : Addr) (f : Int) (v : Value) (b : Bool) : Prop := h.get? it = some (combO tp f v b)
def cutB (items : Array Value) : Bool → List Value
  | false => []
  | true => [items.getD 0 .none]
section
variable {prog : Program} {w : World} {A : Around} {E : Value → Shared → Prop} {s : Shared}
theorem iter_cmb {it tp : Addr} {f : Int} {v : Value} {b : Bool} {Q : Value → Shared → Prop} (hit : IsComb s.heap it tp f v b) (h : Q (.ref it) s) : wpAny (model prog w) A (pyIter (.ref it)) Q E s := by
  have hT : s.TypeIs (.ref it) "itertools.combinations" := ⟨_, hit, rfl⟩
  refine wpAny_pyIter_slot hT slot_cmb_iter (wpAny_call_entry slot_cmb_iter hT entry_cmb_iter ?_ (args_cmb_iter _))
  show wpAny _ _ (ret (.ref it)) _ _ s
  exact wpAny_pure ⟨_, rfl, "itertools.combinations", _, hT, slot_cmb_next.lookup, h⟩
end
end TW
/-! WC2: what a combinations object hands out. -/
namespace TW
open PySem PySem.Spec PyProof.Rows L2 RZ
open Sem (wp)
section
variable {prog : Program} {w : World} {A : Around} {E : Value → Shared → Prop} {s : Shared}
theorem cmb_item {it tp : Addr} {b : Bool} {items : Array Value} {Q : Option Value → Shared → Prop} (hit : IsComb s.heap it tp 0 .none b) (ht : s.heap.IsTuple tp items) (hne : tp ≠ it)
    (hQ : ∀ h', IsComb h' it tp 1 (.ref s.heap.objs.size) b → h'.get? s.heap.objs.size = some { cls := .type "tuple", data := .seq (cutB items b).toArray } → (∀ c o, c ≠ it → s.heap.get? c = some o → h'.get? c = some o) → Q (some (.ref s.heap.objs.size)) { s with heap := h' }) :
    wpAny (model prog w) A (callSpecial? (.ref it) "__next__") Q E s := by
  have hT : s.TypeIs (.ref it) "itertools.combinations" := ⟨_, hit, rfl⟩
  refine wpAny_callSpecial?_slot (name := Str.ofString "__next__") hT slot_cmb_next (wpAny_call_entry slot_cmb_next hT entry_cmb_next ?_ (args_cmb_next _))
  cases b with
  | false =>
    show wpAny _ _ (field (.ref it) 0 >>= _) _ _ s
    refine wpAny_bind (wpAny_field hit rfl (x := .ref tp) rfl ?_)
    show wpAny _ _ ((load it >>= _) >>= _) _ _ s
    refine wpAny_bind (wpAny_bind (wpAny_load hit (wpAny_pure ?_)))
    show wpAny _ _ ((field (.ref it) 1 >>= _) >>= _) _ _ s
    refine wpAny_bind (wpAny_bind (wpAny_field hit rfl (x := rawInt 0) rfl (wpAny_pure ?_)))
    show wpAny _ _ (setField (.ref it) 1 (rawInt 1) >>= _) _ _ s
    refine wpAny_bind (wpAny_setField hit rfl (by show 1 < 3; decide) ?_)
    have hit2 : IsComb (s.heap.update it (Obj.mapFields fun x => x.setIfInBounds 1 (rawInt 1))) it tp 1 .none false := Heap.get?_update_self _ hit rfl
    have sb2 : Heap.SameBut it s.heap (s.heap.update it (Obj.mapFields fun x => x.setIfInBounds 1 (rawInt 1))) := .update ..
    have ht2 : (s.heap.update it (Obj.mapFields fun x => x.setIfInBounds 1 (rawInt 1))).IsTuple tp items := by
      obtain ⟨o, h1, h2, n, h3⟩ := ht
      exact ⟨o, (Heap.get?_update_other _ _ (Ne.symm hne)).trans h1, h2, n, h3⟩
    generalize s.heap.update it (Obj.mapFields fun x => x.setIfInBounds 1 (rawInt 1)) = h2 at hit2 ht2 sb2
    obtain ⟨ot, e1, e2, n, e3⟩ := id ht2
    show wpAny _ _ ((((load tp >>= _) >>= _) >>= _) >>= _) _ _ _
    refine wpAny_bind (wpAny_bind (wpAny_bind (wpAny_bind (wpAny_load e1 ?_))))
    rw [e3]
    refine wpAny_pure (wpAny_pure ?_)
    show wpAny _ _ (newTuple (cutB items false)) _ _ _
    refine wpAny_newTuple ?_ (by show _ ≤ sizeLine; exact Nat.le_of_ble_eq_true rfl)
    have hz : h2.objs.size = s.heap.objs.size := sb2.1
    have hil : it < h2.objs.size := Heap.lt_size hit2
    have hit3 : IsComb (h2.push { cls := .type "tuple", data := .seq (cutB items false).toArray }) it tp 1 .none false := Heap.get?_push_of_some _ hit2
    have hT3 : (h2.push { cls := .type "tuple", data := .seq (cutB items false).toArray }).get? h2.objs.size = some { cls := .type "tuple", data := .seq (cutB items false).toArray } := Heap.get?_push_size _ rfl
    have kp3 : ∀ c o, h2.get? c = some o → (h2.push { cls := .type "tuple", data := .seq (cutB items false).toArray }).get? c = some o := fun c o q => Heap.get?_push_of_some _ q
    generalize h2.push { cls := .type "tuple", data := .seq (cutB items false).toArray } = h3 at hit3 hT3 kp3
    show wpAny _ _ (field (.ref it) 2 >>= _) _ _ _
    refine wpAny_bind (wpAny_field hit3 rfl (x := .none) rfl ?_)
    show wpAny _ _ (setField (.ref it) 2 (.ref h2.objs.size) >>= _) _ _ _
    refine wpAny_bind (wpAny_setField hit3 rfl (by show 2 < 3; decide) (wpAny_bind (wpAny_letGo (wpAny_pure ⟨_, rfl, ?_⟩))))
    rw [hz] at hT3 ⊢
    refine hQ _ (Heap.get?_update_self _ hit3 rfl) ((Heap.get?_update_other _ _ (by rw [hz] at hil; exact (Nat.ne_of_lt hil))).trans hT3) fun c o hc q => (Heap.get?_update_other _ _ (Ne.symm hc)).trans (kp3 c o ((sb2.2 c hc).trans q))
  | true =>
    show wpAny _ _ (field (.ref it) 0 >>= _) _ _ s
    refine wpAny_bind (wpAny_field hit rfl (x := .ref tp) rfl ?_)
    show wpAny _ _ ((load it >>= _) >>= _) _ _ s
    refine wpAny_bind (wpAny_bind (wpAny_load hit (wpAny_pure ?_)))
    show wpAny _ _ ((field (.ref it) 1 >>= _) >>= _) _ _ s
    refine wpAny_bind (wpAny_bind (wpAny_field hit rfl (x := rawInt 0) rfl (wpAny_pure ?_)))
    show wpAny _ _ (setField (.ref it) 1 (rawInt 1) >>= _) _ _ s
    refine wpAny_bind (wpAny_setField hit rfl (by show 1 < 4; decide) ?_)
    have hit2 : IsComb (s.heap.update it (Obj.mapFields fun x => x.setIfInBounds 1 (rawInt 1))) it tp 1 .none true := Heap.get?_update_self _ hit rfl
    have sb2 : Heap.SameBut it s.heap (s.heap.update it (Obj.mapFields fun x => x.setIfInBounds 1 (rawInt 1))) := .update ..
    have ht2 : (s.heap.update it (Obj.mapFields fun x => x.setIfInBounds 1 (rawInt 1))).IsTuple tp items := by
      obtain ⟨o, h1, h2, n, h3⟩ := ht
      exact ⟨o, (Heap.get?_update_other _ _ (Ne.symm hne)).trans h1, h2, n, h3⟩
    generalize s.heap.update it (Obj.mapFields fun x => x.setIfInBounds 1 (rawInt 1)) = h2 at hit2 ht2 sb2
    obtain ⟨ot, e1, e2, n, e3⟩ := id ht2
    show wpAny _ _ ((((load tp >>= _) >>= _) >>= _) >>= _) _ _ _
    refine wpAny_bind (wpAny_bind (wpAny_bind (wpAny_bind (wpAny_load e1 ?_))))
    rw [e3]
    refine wpAny_pure (wpAny_pure ?_)
    show wpAny _ _ (newTuple (cutB items true)) _ _ _
    refine wpAny_newTuple ?_ (by show _ ≤ sizeLine; exact Nat.le_of_ble_eq_true rfl)
    have hz : h2.objs.size = s.heap.objs.size := sb2.1
    have hil : it < h2.objs.size := Heap.lt_size hit2
    have hit3 : IsComb (h2.push { cls := .type "tuple", data := .seq (cutB items true).toArray }) it tp 1 .none true := Heap.get?_push_of_some _ hit2
    have hT3 : (h2.push { cls := .type "tuple", data := .seq (cutB items true).toArray }).get? h2.objs.size = some { cls := .type "tuple", data := .seq (cutB items true).toArray } := Heap.get?_push_size _ rfl
    have kp3 : ∀ c o, h2.get? c = some o → (h2.push { cls := .type "tuple", data := .seq (cutB items true).toArray }).get? c = some o := fun c o q => Heap.get?_push_of_some _ q
    generalize h2.push { cls := .type "tuple", data := .seq (cutB items true).toArray } = h3 at hit3 hT3 kp3
    show wpAny _ _ (field (.ref it) 2 >>= _) _ _ _
    refine wpAny_bind (wpAny_field hit3 rfl (x := .none) rfl ?_)
    show wpAny _ _ (setField (.ref it) 2 (.ref h2.objs.size) >>= _) _ _ _
    refine wpAny_bind (wpAny_setField hit3 rfl (by show 2 < 4; decide) (wpAny_bind (wpAny_letGo (wpAny_pure ⟨_, rfl, ?_⟩))))
    rw [hz] at hT3 ⊢
    refine hQ _ (Heap.get?_update_self _ hit3 rfl) ((Heap.get?_update_other _ _ (by rw [hz] at hil; exact (Nat.ne_of_lt hil))).trans hT3) fun c o hc q => (Heap.get?_update_other _ _ (Ne.symm hc)).trans (kp3 c o ((sb2.2 c hc).trans q))
theorem stop_cmb {h2 : Heap} {it : Addr} {Q : Fin → Shared → Prop} (hh : A.handled = none) (hQ : ∀ e h', CpRep.StopE e h' → Heap.ExtBut it h2 h' → E e { s with heap := h' }) : wpAny (model prog w) A.in1 (Builtin.Itertools.itStop) Q E { s with heap := h2 } := by
  show wpAny _ _ (newExc (.type "StopIteration") [] >>= _) _ _ _
  refine wpAny_bind ?_
  simp only [newExc, newTuple]
  refine wpAny_bind (wpAny_newObj_type ?_ (by size_fits))
  refine wpAny_bind (m := firstArgMember _ _) (wpAny_of_eq (a := Value.none) (by first | rfl | (simp only [firstArgMember]; rfl)) ?_)
  refine wpAny_newObj_type ?_ (by size_fits)
  simp only [raiseNew]
  refine wpAny_bind (wpAny_handled ?_)
  first | rw [show A.in1.handled = none from hh] | rw [hh]
  refine wpAny_bind (wpAny_pure (wpAny_throw ?_))
  exact hQ _ _ ⟨_, _, _, rfl, Heap.get?_push_size _ rfl, rfl, rfl, rfl⟩ (((Heap.ExtBut.refl it h2).push _).push _)
theorem cmb_end {it tp : Addr} {v : Value} {b : Bool} {items : Array Value} {Q : Option Value → Shared → Prop} (hh : A.handled = none) (hit : IsComb s.heap it tp 1 v b) (ht : s.heap.IsTuple tp items) (hne : tp ≠ it) (hb : items.size = if b then 1 else items.size) (h1 : items.size ≤ 1)
    (hQ : ∀ e h', CpRep.StopE e h' → Heap.ExtBut it s.heap h' → E e { s with heap := h' }) : wpAny (model prog w) A (callSpecial? (.ref it) "__next__") Q E s := by
  have hT : s.TypeIs (.ref it) "itertools.combinations" := ⟨_, hit, rfl⟩
  refine wpAny_callSpecial?_slot (name := Str.ofString "__next__") hT slot_cmb_next (wpAny_call_entry slot_cmb_next hT entry_cmb_next ?_ (args_cmb_next _))
  cases b with
  | false =>
    show wpAny _ _ (field (.ref it) 0 >>= _) _ _ s
    refine wpAny_bind (wpAny_field hit rfl (x := .ref tp) rfl ?_)
    show wpAny _ _ ((load it >>= _) >>= _) _ _ s
    refine wpAny_bind (wpAny_bind (wpAny_load hit (wpAny_pure ?_)))
    show wpAny _ _ ((field (.ref it) 1 >>= _) >>= _) _ _ s
    refine wpAny_bind (wpAny_bind (wpAny_field hit rfl (x := rawInt 1) rfl (wpAny_pure ?_)))
    obtain ⟨ot, e1, e2, n, e3⟩ := id ht
    show wpAny _ _ (((load tp >>= _) >>= _) >>= _) _ _ _
    refine wpAny_bind (wpAny_bind (wpAny_bind (wpAny_load e1 ?_)))
    rw [e3]
    refine wpAny_pure (wpAny_pure ?_)
    show wpAny _ _ (setField (.ref it) 1 (rawInt 2) >>= _) _ _ s
    refine wpAny_bind (wpAny_setField hit rfl (by show 1 < 3; decide) ?_)
    have sb2 : Heap.SameBut it s.heap (s.heap.update it (Obj.mapFields fun x => x.setIfInBounds 1 (rawInt 2))) := .update ..
    generalize s.heap.update it (Obj.mapFields fun x => x.setIfInBounds 1 (rawInt 2)) = h2 at sb2
    exact stop_cmb hh fun e h' q1 q2 => hQ e h' q1 (sb2.extBut.trans q2)
  | true =>
    show wpAny _ _ (field (.ref it) 0 >>= _) _ _ s
    refine wpAny_bind (wpAny_field hit rfl (x := .ref tp) rfl ?_)
    show wpAny _ _ ((load it >>= _) >>= _) _ _ s
    refine wpAny_bind (wpAny_bind (wpAny_load hit (wpAny_pure ?_)))
    show wpAny _ _ ((field (.ref it) 1 >>= _) >>= _) _ _ s
    refine wpAny_bind (wpAny_bind (wpAny_field hit rfl (x := rawInt 1) rfl (wpAny_pure ?_)))
    obtain ⟨ot, e1, e2, n, e3⟩ := id ht
    show wpAny _ _ (((load tp >>= _) >>= _) >>= _) _ _ _
    refine wpAny_bind (wpAny_bind (wpAny_bind (wpAny_load e1 ?_)))
    rw [e3]
    refine wpAny_pure (wpAny_pure ?_)
    rw [show items.size = 1 from hb]
    show wpAny _ _ (setField (.ref it) 1 (rawInt 2) >>= _) _ _ s
    refine wpAny_bind (wpAny_setField hit rfl (by show 1 < 4; decide) ?_)
    have sb2 : Heap.SameBut it s.heap (s.heap.update it (Obj.mapFields fun x => x.setIfInBounds 1 (rawInt 2))) := .update ..
    generalize s.heap.update it (Obj.mapFields fun x => x.setIfInBounds 1 (rawInt 2)) = h2 at sb2
    exact stop_cmb hh fun e h' q1 q2 => hQ e h' q1 (sb2.extBut.trans q2)
end
end TW
/-! WC3: combinations is made. -/
namespace TW
open PySem PySem.Spec PyProof.Rows L2 RZ
open Sem (wp)
def combIx (r : Nat) : List Value := (List.range r).map fun (i : Nat) => rawInt i
section
variable {prog : Program} {w : World} {A : Around} {E : Value → Shared → Prop} {s : Shared}
theorem cls_cmb {a b : Value} {Q : Value × List Value → Shared → Prop} (h : Q (.type "itertools.combinations", [a, b]) s) : wpAny (model prog w) A (Builtin.Itertools.itClassAndRest "combinations" ⟨[.type "itertools.combinations", a, b], []⟩) Q E s := by
  obtain ⟨hp, g, dd, tk, os⟩ := s
  have hsub := sub_cmb
  repeat wp_step
  have es : ("itertools." ++ "combinations" : String) = "itertools.combinations" := by decide
  rw [es]
  refine wpAny_of_eq hsub ?_
  repeat wp_step
  exact h
theorem nam_cmb {a b : Value} {Q : List (Option Value) → Shared → Prop} (h : Q [some a, some b] s) : wpAny (model prog w) A (Builtin.Itertools.itBindNamed "combinations" ["iterable", "r"] 2 2 [a, b] []) Q E s := by
  obtain ⟨hp, g, dd, tk, os⟩ := s
  repeat (first
      | wp_step
      | simp only [List.head?_cons, Option.some_or, List.getElem?_cons_succ, List.getElem?_cons_zero, List.length_cons, List.length_nil, List.forIn_nil])
  all_goals first | exact h | skip
theorem ssz_cmb {r : Int} {t : Tok} {Q : Int → Shared → Prop} (h0 : 0 ≤ r) (h1 : r ≤ 1000) (h : Q r s) : wpAny (model prog w) A (Builtin.Itertools.itSsizeArg (.int r t)) Q E s := by
  obtain ⟨hp, g, dd, tk, os⟩ := s
  have hn : ¬ ((decide (r < -(2 ^ 63 : Int)) || decide (r ≥ (2 ^ 63 : Int))) = true) := by
    have a : decide (r < -(2 ^ 63 : Int)) = false := decide_eq_false (by omega)
    have b : decide (r ≥ (2 ^ 63 : Int)) = false := decide_eq_false (by omega)
    rw [a, b]
    decide
  repeat (first
      | wp_step
      | (refine wpAny_ite_false (decide_eq_false hn) ?_))
  all_goals first | exact h | skip
end
theorem meets_cmb_new (l : Addr) (items : Array Value) (n : Nat) (dct : Option Addr) (sl : Array (Option Value)) (r : Int) (t : Tok) (h0 : 0 ≤ r) (h1 : r ≤ 1000) (hsz : items.size ≤ sizeLine) :
    Meets (Builtin.«itertools.combinations.__new__» ⟨[.type "itertools.combinations", .ref l, .int r t], []⟩)
      (fun _ R s => s.heap.get? l = some { cls := .type "list", dict := dct, data := .seq items n, slots := sl } ∧ ∀ h' : Heap, (∀ b o, s.heap.get? b = some o → h'.get? b = some o) →
        R (.ok (.ret (.ref (h'.push { cls := .type "tuple", data := .seq items.toList.toArray }).objs.size))) { s with heap := (h'.push { cls := .type "tuple", data := .seq items.toList.toArray }).push { cls := .type "itertools.combinations", data := .fields ([.ref h'.objs.size, rawInt (if r.toNat > items.toList.length then 2 else 0), .none] ++ combIx r.toNat).toArray } }) :=
  .of_wp fun prog w A R s h => by
    obtain ⟨hl, h⟩ := h
    have hneg : ¬ r < 0 := by omega
    have hmany : ¬ Builtin.Itertools.itTooMany r = true := by
      unfold Builtin.Itertools.itTooMany
      rw [decide_eq_true_iff]
      omega
    refine wpAny_bind (Q := _) ?_
    refine wpAny_bind (cls_cmb ?_)
    refine wpAny_bind (nam_cmb ?_)
    refine wpAny_bind (ssz_cmb h0 h1 ?_)
    refine wpAny_bind (wpAny_collect_seq l (.inl rfl) hl rfl rfl (fun h' hk => ?_) hsz)
    show wpAny _ _ (if r < 0 then _ else _) _ _ _
    rw [if_neg hneg]
    show wpAny _ _ (if Builtin.Itertools.itTooMany r = true then _ else _) _ _ _
    rw [if_neg hmany]
    refine wpAny_bind (wpAny_newTuple (wpAny_pure ?_) (by show _ ≤ sizeLine; rw [Array.length_toList]; exact hsz))
    show wpAny _ _ (Builtin.Itertools.itNewRecord _ _ >>= _) _ _ _
    refine wpAny_bind ?_
    unfold Builtin.Itertools.itNewRecord
    rw [noDict_cmb]
    rw [if_pos (show (!false) = true from rfl)]
    refine wpAny_newObj_type (wpAny_pure ⟨_, rfl, h h' hk⟩) ?_
    show _ ≤ sizeLine + 2
    have : sizeLine = 16777216 := by decide
    rw [List.size_toArray, List.length_append, List.length_map, List.length_range]
    simp only [List.length_cons, List.length_nil]
    omega
end TW
/-! WC4: for names in combinations(xs, r), at most one of xs. -/
namespace TW
open PySem PySem.Spec PyProof.Rows L2 RZ
section
variable {prog : Program} {w : World} {A : Around} {E : Value → Shared → Prop} {s : Shared}
theorem call_cmb {l : Addr} {items : Array Value} {b : Bool} {t : Tok} {Q : Value → Shared → Prop} (hl : s.heap.IsList l items) (hb : b = true → items.size = 1) (hsz : items.size ≤ sizeLine)
    (h : ∀ (h1 h' : Heap) (tp it : Addr), (∀ c o, s.heap.get? c = some o → h1.get? c = some o) → IsComb h' it tp 0 .none b → h'.IsTuple tp items → tp ≠ it → h1.objs.size ≤ it → h1.objs.size ≤ tp → (∀ c o, h1.get? c = some o → h'.get? c = some o) → Q (.ref it) { s with heap := h' }) :
    wpAny (model prog w) A (call (.type "itertools.combinations") [.ref l, .int (if b then 1 else 0) t]) Q E s := by
  obtain ⟨⟨c, dct, dt, sl⟩, hl, hc, n, hd⟩ := hl
  replace hc : c = .type "list" := hc
  replace hd : dt = .seq items n := hd
  subst hc hd
  refine callType_new called_cmb (by decide +kernel) (typeCall_cmb_2 _ _) (newCall_cmb_2 _ _) (fun obj => F.args_object_init_3 obj _ _) entry_cmb_new (meets_cmb_new l items n dct sl _ t (by cases b <;> decide) (by cases b <;> decide) hsz) ⟨hl, fun h' hk => ?_⟩
  have eF : ([Value.ref h'.objs.size, rawInt (if (if b then (1 : Int) else 0).toNat > items.toList.length then 2 else 0), .none] ++ combIx (if b then (1 : Int) else 0).toNat).toArray = combF h'.objs.size 0 .none b := by
    cases b with
    | false => simp [combIx, combF]
    | true =>
      have := hb rfl
      simp [combIx, combF, this]
  rw [eF]
  have hz : (h'.push { cls := .type "tuple", data := .seq items.toList.toArray }).objs.size = h'.objs.size + 1 := Heap.size_push ..
  rw [hz]
  have e1 := Heap.get?_push_size (h'.push { cls := .type "tuple", data := .seq items.toList.toArray }) (o := combO h'.objs.size 0 .none b) rfl
  rw [hz] at e1
  refine ⟨⟨_, e1, rfl⟩, h h' _ h'.objs.size (h'.objs.size + 1) hk e1 ⟨_, Heap.get?_push_of_some _ (Heap.get?_push_size _ rfl), rfl, 0, by simp⟩ (Nat.ne_of_lt (Nat.lt_succ_self _)) (Nat.le_succ _) (Nat.le_refl _) fun c o q => Heap.get?_push_of_some _ (Heap.get?_push_of_some _ q)⟩
end
/-- one turn: the first so many of xs, in a new tuple -/
def Itc (ys : List V) : It := ⟨fun i _ => i < 1, fun i H v H' => i = 0 ∧ ∃ T, v = .ref T ∧ H T = none ∧ H' = upd H T (.tup ys), fun i _ => i = 1⟩
theorem turn_cmb {P : Program} {w : World} {K : PySem.W.Frag} {x : Str} {tpos : Pos} {b : Bool} {items : Array Value} {ys : List V} (it tp : Addr) (hb : items.size = if b then 1 else items.size) (h1 : items.size ≤ 1) (hy : Vals ys (cutB items b)) :
    Turn P w K (.Name x tpos) (Itc ys) [it, tp] it (fun i h => (∃ v, IsComb h it tp (i : Nat) v b ∧ (i = 0 → v = .none)) ∧ i ≤ 1 ∧ h.IsTuple tp items ∧ tp ≠ it) where
  mem := by simp
  obj := fun i h st c hc => by
    obtain ⟨⟨v, he, _⟩, _, ⟨o, ho, hcl, n, hd⟩, _⟩ := st
    have e' : c = it ∨ c = tp := by simpa using hc
    rcases e' with z | z
    · rw [z]; exact ⟨_, he, fun v q => nomatch q⟩
    · rw [z]; exact ⟨o, ho, fun v q => by rw [hd] at q; cases q⟩
  keep := fun i h h' st k => let ⟨⟨v, he, e0⟩, hi, ht, hne⟩ := st; ⟨⟨v, k it (by simp) _ he, e0⟩, hi, ht.at fun o q => k tp (by simp) o q, hne⟩
  item := by
    intro X hP hw hK hc i pins s σ H E I hf st hg
    subst hP hw hK
    obtain ⟨⟨v, hit, e0⟩, hi1, ht, hne⟩ := st
    have hi : i = 0 := Nat.lt_one_iff.mp hg
    subst hi
    obtain rfl := e0 rfl
    have hil : it < s.heap.objs.size := Heap.lt_size hit
    have htl : tp < s.heap.objs.size := by obtain ⟨o, q, _⟩ := ht; exact Heap.lt_size q
    unfold pyNext
    refine wpAny_bind (wpAny_attempt (cmb_item hit ht hne fun h' hit' hT kp => wpAny_pure ?_))
    have new : ObjOk X.prog X.w (upd H s.heap.objs.size (.tup ys)) h' s.heap.objs.size (.tup ys) :=
      ⟨by have := hy.length; rw [this]; cases b <;> exact Nat.le_of_ble_eq_true rfl, cutB items b, hy, ⟨_, hT, rfl, _, rfl⟩⟩
    have hfi : ∀ c ∈ [it], FpOk X pins H c := fun c hcm => hf c (by rw [List.mem_singleton.mp hcm]; exact .head _)
    have I1 : L2.Inv X pins σ (upd H s.heap.objs.size (.tup ys)) { s with heap := h' } :=
      I.turnedNew (t' := s.toks) (ch := [it]) (fun c ob hcn q => kp c ob (fun z => hcn (by simp [z])) q) hfi (Nat.le_refl _) new
    have ht' : h'.IsTuple tp items := by
      obtain ⟨o, q1, q2, n, q3⟩ := ht
      exact ⟨o, kp tp o hne q1, q2, n, q3⟩
    refine ⟨_, rfl, go_of (s := { s with heap := h' }) (n := "itertools.combinations") hit' rfl rfl (by decide) ⟨.ref s.heap.objs.size, _, I1, rfl, ⟨rfl, _, rfl, I.hok.fresh (Nat.le_refl _), rfl⟩, ⟨⟨_, hit', fun z => (nomatch z)⟩, Nat.le_refl _, ht', hne⟩, fun c hcm => ?_⟩⟩
    have hc' : c < s.heap.objs.size := by
      have e' : c = it ∨ c = tp := by simpa using hcm
      rcases e' with z | z
      · rw [z]; exact hil
      · rw [z]; exact htl
    rw [upd_ne (Nat.ne_of_lt hc')]
    exact (hf c hcm).1
  done := by
    intro X hP hw hK hc i pins s σ H E I hf st hg
    subst hP hw hK
    obtain ⟨⟨v, hit, e0⟩, hi1, ht, hne⟩ := st
    have hi : i = 1 := hg
    subst hi
    obtain ⟨f0, f1, f2, f3, f4, f5⟩ := hf it (by simp)
    unfold pyNext
    refine wpAny_bind (wpAny_attempt (cmb_end (I.ok.hd hc) hit ht hne hb h1 fun e h' he hx => ?_))
    obtain ⟨a, o, vs, rfl, ho, hcl, _⟩ := he
    refine wpAny_bind (wpAny_isInstance (T := "StopIteration") (b := true) ⟨o, ho, hcl⟩ isSubtype_stop ?_)
    exact wpAny_pure ⟨rfl, I.turned (t' := s.toks) (fun c ob hcn q => hx c ob hcn q) f0 f1 f3 f4 f5⟩
  self := fun A i s Q E st h => let ⟨⟨v, he, _⟩, _⟩ := st; iter_cmb he h
section
variable {X : Cx} {e e2 : Expr} {σ : L2.St} {B H : Hp} {ds : List PyData} {x c : Str} {pp pos tpos : Pos} {b : Bool}
/-- for names in combinations(xs, r): xs of at most one item -/
theorem xi_cmb (hg : Gl X c) (hm : X.mg c = some (.type "itertools.combinations")) (ha : XE X e σ B (DD X.K (.list ds))) (hr : XI X e2 σ B (if b then 1 else 0)) (hl : ds.length ≤ 1) (hb : b = true → ds.length = 1) (hdb : (c == ("__debug__" : Str)) = false := by decide)
    (hs1 : starEach [e, e2] X.env = (false, eval e X.env) :: starEach [e2] X.env := by rfl) (hs2 : starEach [e2] X.env = (false, eval e2 X.env) :: starEach [] X.env := by rfl) (hpl : (backTo pos (starEach [e2] X.env)).any (·.1) = false := by rfl) : XI_ X (.Name x tpos) (.Call (.Name c pp) [e, e2] [] pos) σ B [.tuple (ds.take (if b then 1 else 0))] := fun H s R k pins st I => by
  refine Call_ (ld_glob I hg hm ?_ hdb)
  refine PyProof.Rows.callWith_type1 ?_ hs1 hpl
  have hA : XA X [e, e2] σ B (DDs X.K [.list ds, .int (if b then 1 else 0)]) := xd_cons ha (xd_cons hr xd_nil hs2) hs1
  refine thn (hA H s (fun vs H1 => ∃ B1, Gr B H B1 H1 ∧ DqAll X.K B1 vs [.list ds, .int (if b then 1 else 0)]) (fun v B1 H1 g p => ⟨B1, g, p⟩) pos pins st I) fun us s1 ⟨vs, H1, I1, rv, B1, g1, p1⟩ => ?_
  cases p1 with
  | cons q1 p1 =>
    cases p1 with
    | cons q2 p1 =>
      cases p1
      obtain ⟨l, xs, rfl, hl1, r1⟩ := Dq.lst_v q1
      obtain rfl := Dq.int_v q2
      obtain ⟨u1, u2, rfl, ru1, ru2⟩ : ∃ u1 u2, us = [u1, u2] ∧ RelV (.ref l) u1 ∧ RelV (.int (if b then 1 else 0)) u2 := by
        cases rv with
        | cons a t =>
          cases t with
          | cons a2 t =>
            cases t
            exact ⟨_, _, rfl, a, a2⟩
      obtain rfl : u1 = Value.ref l := ru1
      obtain ⟨t, rfl⟩ := ru2
      obtain ⟨its, r, pl, hz⟩ := I1.list (.of (g1.bh _ _ hl1))
      have e1 : its.length = ds.length := by rw [← r.length, r1.length]
      have e2 : its.toArray.size = ds.length := by rw [List.size_toArray, e1]
      refine call_cmb pl.isList (fun hb' => by rw [e2]; exact hb hb') (by rw [e2]; exact Nat.le_trans hl (by decide)) fun h1 h' tp it k1 hc ht hne z1 z2 k2 => ?_
      have J1 : L2.Inv X pins σ H1 { s1 with heap := h1 } := I1.kept (t' := s1.toks) k1
      have J2 : L2.Inv X pins σ H1 { s1 with heap := h' } := J1.kept (t' := s1.toks) k2
      refine iter_cmb hc ?_
      have ey : ∃ ys, Vals ys (cutB its.toArray b) ∧ DqAll X.K B1 ys (ds.take (if b then 1 else 0)) := by
        cases b with
        | false => exact ⟨[], .nil, .nil⟩
        | true =>
          have hd1 := hb rfl
          cases r1 with
          | nil => cases hd1
          | cons w1 w2 =>
            cases r with
            | cons y1 y2 => exact ⟨[_], .cons y1 .nil, .cons w1 .nil⟩
      obtain ⟨ys, y1, y2⟩ := ey
      refine ⟨it, [it, tp], _, Itc ys, H1, rfl, J2, turn_cmb it tp (by cases b with
        | false => rfl
        | true => rw [e2]; exact hb rfl) (by rw [e2]; exact hl) y1, ⟨⟨.none, hc, fun _ => rfl⟩, Nat.zero_le _, ht, hne⟩, fun c hcm => ?_, k (Itc ys) B1 H1 g1 ⟨fun i H2 _ hi => hi, fun H2 _ => rfl, fun i H2 v H3 s2 hi y => ?_⟩⟩
      · have hle : h1.objs.size ≤ c := by
          have e' : c = it ∨ c = tp := by simpa using hcm
          rcases e' with z | z
          · rw [z]; exact z1
          · rw [z]; exact z2
        exact J1.fpOk hle (J1.hok.fresh hle)
      · obtain ⟨rfl, T, rfl, hT, rfl⟩ := y
        exact ⟨_, _, rfl, .new s2 hT, .tup (.of upd_same) (DqAll.up (same_new (s2.free hT)) _ _ y2)⟩
end
end TW
/-! W11: clash_of. -/
namespace TW
open PySem PySem.Spec PyProof.Rows L2
theorem kept_len (pr : Lat) (ns : List Int) : (keptAlone pr ns).length = pr.length := by
  unfold keptAlone
  rw [List.length_map, List.length_zipIdx]
theorem clash_none {h : Harb} {ships : List Ship} {st : Sta} {pr : Lat} {ship : Int} (hn : ∀ n, n < (othersOf pr ship).length + 1 → hasWay h ships st (keptAlone pr ((othersOf pr ship).take n ++ [ship])) = true) : clashOf h ships st pr ship = none := by
  unfold clashOf
  rw [Option.map_eq_none_iff, List.find?_eq_none]
  intro n hm
  rw [hn n (List.mem_range.mp hm)]
  simp
theorem clash_some {h : Harb} {ships : List Ship} {st : Sta} {pr : Lat} {ship : Int} {n : Nat} (hlt : n < (othersOf pr ship).length + 1) (hn : ∀ k, k < n → hasWay h ships st (keptAlone pr ((othersOf pr ship).take k ++ [ship])) = true) (hf : hasWay h ships st (keptAlone pr ((othersOf pr ship).take n ++ [ship])) = false) : clashOf h ships st pr ship = some ((othersOf pr ship).take n) := by
  unfold clashOf
  have e : (List.range ((othersOf pr ship).length + 1)).find? (fun n => !hasWay h ships st (keptAlone pr ((othersOf pr ship).take n ++ [ship]))) = some n := by
    rw [List.find?_range_eq_some]
    refine ⟨by rw [hf]; rfl, List.mem_range.mpr hlt, fun k hk => ?_⟩
    rw [hn k hk]
    rfl
  rw [e]
  rfl
theorem c_notNO {X : Cx} {o : Option Int} : CmpOk X .IsNot (eOpt o) .none o.isSome := by
  cases o with
  | none => exact c_notN (d1 := .none)
  | some i => exact c_notN (d1 := .int i)
theorem c_isNO {X : Cx} {o : Option Int} : CmpOk X .Is (eOpt o) .none o.isNone := by
  cases o with
  | none => exact c_isN (d1 := .none)
  | some i => exact c_isN (d1 := .int i)
/-- range(n), told by the numbers -/
theorem xi_rangeN {X : Cx} {tg e : Expr} {σ : L2.St} {B : Hp} {pos pp : Pos} {n : Int} {m : Nat} (hg : Gl X "range") (hm : X.mg "range" = none) (h : XI X e σ B n) (hn : n = (m : Int)) (hz : m ≤ 1000000) (hs1 : starEach [e] X.env = (false, eval e X.env) :: starEach [] X.env := by rfl) (hs : starEach [e] X.env = [(false, eval e X.env)] := by rfl) : XI_ X tg (.Call (.Name "range" pp) [e] [] pos) σ B ((List.range m).map fun (i : Nat) => PyData.int (i : Int)) := by
  have z := xi_range1 (tg := tg) (pos := pos) (pp := pp) hg hm h (by omega) hs1 hs
  have e2 : rgD 0 n.toNat = (List.range m).map fun (i : Nat) => PyData.int (i : Int) := by
    unfold rgD
    rw [hn, Int.toNat_natCast]
    refine List.map_congr_left fun i _ => ?_
    rw [Int.zero_add]
  rw [e2] at z
  exact z
section
variable {P : Program} {w : World} {K : PySem.W.Frag} {mg : Str → Option Value} {base : Heap}
def A49 (K : PySem.W.Frag) (y : Harb × List Ship × Sta × Lat × Int) (B : Hp) (vs : List V) : Prop := (Wd y.1 y.2.1 ∧ Stt y.1 y.2.1 y.2.2.1 ∧ y.2.2.2.1.length = y.2.1.length ∧ (othersOf y.2.2.2.1 y.2.2.2.2).length ≤ 1) ∧ DqAll K B vs [eHarb y.1, eShips y.2.1, eSta y.2.2.1, eProm y.2.2.2.1, .int y.2.2.2.2]
theorem dn49 (T : Txt K mg) : Dn P w K mg base CX0 8 "clash_of" ["harbour", "ships", "here", "promises", "ship"] (SpP (A49 K) fun y => DD K (eClash (clashOf y.1 y.2.1 y.2.2.1 y.2.2.2.1 y.2.2.2.2))) :=
  dn_of T.f49 sc49 (fun _ _ _ _ _ _ us hl => match us, hl with | [_, _, _, _, _], _ => rfl) (fun y B vs h => h.2.length) fun f cdv A0 outer s H vs E y B Q hr sb ha q => by
    obtain ⟨hd, ships, st, pr, ship⟩ := y
    obtain ⟨⟨wd, stt, h1, ho⟩, hv⟩ := ha
    change Wd hd ships at wd
    change Stt hd ships st at stt
    change pr.length = ships.length at h1
    change (othersOf pr ship).length ≤ 1 at ho
    obtain ⟨v1, v2, v3, v4, v5, rfl, r1, r2, r3, r4, r5⟩ := inv5 hv
    have plen : pr.length ≤ 2 := by have := wd.sn; omega
    refine ws_cons (ws_setLc (l := pr.zipIdx) (enc := fun p => .tuple [.int (p.2 : Int), eOpt p.1]) (enc' := .int) (own := o49_0) 5 ?_ (fun p => if p.1.isSome = true ∧ ¬ (p.2 : Int) = ship then some (p.2 : Int) else none) ?_ sb (fun ov B1 H1 g1 p1 => ?_) (by rw [List.length_zipIdx, line_big]; omega) rfl sc49.nd bk49_0 rfl)
    · rw [← enD_map]
      exact xi_enum rfl T.b_enumerate (x_var 3 rfl r4)
    · intro i a v B' ea sb' hd
      obtain ⟨l, u1, u2, rfl, hq, q1, q2⟩ := tup2 hd
      apply lc_turn
      · rintro XB ⟨_, _, _, _, _, rfl⟩
        refine ⟨xg_tup rfl hq (xgs_cons (xg_name 8 sc49.nd) (xgs_cons (xg_name 9 sc49.nd) xgs_nil)), xts_one (XT.is (xt_w (xw_and (xt_cmp c_notNO (x_var 9 rfl q2) x_non) fun _ => xw_and1 (xt_cmp (c_neI (un64 hr)) (x_var 8 rfl q1) (x_var 4 rfl (Dq.up sb' _ _ r5))))) ?_), fun r hr => ?_⟩
        · rw [some_if]
          simp
        · obtain ⟨_, rfl⟩ : _ ∧ (a.2 : Int) = r := by simpa using hr
          exact x_var 8 rfl q1
      · rfl
    · have p1' : Dq K B1 ov (.list ((othersOf pr ship).map .int)) := p1
      generalize hos : othersOf pr ship = os at p1' ho
      have r1' := Dq.up g1.bb _ _ r1
      have r2' := Dq.up g1.bb _ _ r2
      have r3' := Dq.up g1.bb _ _ r3
      have r4' := Dq.up g1.bb _ _ r4
      have r5' := Dq.up g1.bb _ _ r5
      have el : ((os.map PyData.int).length : Int) = (os.length : Int) := by rw [List.length_map]
      refine ws_cons (ws_forB (l := List.range (os.length + 1)) (enc := fun (i : Nat) => PyData.int (i : Int)) rfl (xi_rangeN (n := (os.length : Int) + 1) rfl T.b_range (x_add ?_ x_int) (by omega) (by omega)) g1.bh fun B3 H3 g3 => ?_)
      · rw [← el]
        exact x_lenL rfl T.b_len (x_var 5 rfl p1')
      · refine ⟨fun i σ' B' H' => (∃ x6 x7 x8 x9, σ' = [some v1, some v2, some v3, some v4, some v5, some ov, x6, x7, x8, x9]) ∧ Gr B1 H1 B' H' ∧ Same B3 B' ∧ ∀ n, n < i → hasWay hd ships st (keptAlone pr (os.take n ++ [ship])) = true,
          ⟨⟨_, _, _, _, rfl⟩, g3, .refl _, fun n hn => (nomatch hn)⟩, fun i σ' B' H' h => ⟨h.2.2.1, h.2.1.bh⟩, ?_, ?_⟩
        · rintro i n v σ' B' H' B4 H4 ea ⟨⟨x6, x7, x8, x9, rfl⟩, gg, sB, hall⟩ g4 dv
          obtain ⟨hin, rfl⟩ : i < os.length + 1 ∧ i = n := by
            have h2 := (List.getElem?_eq_some_iff.mp ea)
            obtain ⟨h2, h3⟩ := h2
            rw [List.length_range] at h2
            rw [List.getElem_range] at h3
            exact ⟨h2, h3⟩
          have g14 := gg.trans g4
          have s4 := g14.bb
          refine ⟨_, xg_name 6 sc49.nd, ?_⟩
          have hi1 : (i : Int) = if decide (i = 1) = true then 1 else 0 := by
            by_cases h : i = 1
            · rw [decide_eq_true h, if_pos rfl, h]
              rfl
            · rw [decide_eq_false h, if_neg (by simp)]
              omega
          have dv' : Dq K B4 v (.int (if decide (i = 1) = true then 1 else 0)) := by
            rw [← hi1]
            exact dv
          have etk : (os.map PyData.int).take (if decide (i = 1) = true then 1 else 0) = (os.take i).map .int := by
            rw [List.map_take]
            by_cases h : i = 1
            · rw [decide_eq_true h, if_pos rfl, h]
            · rw [decide_eq_false h, if_neg (by simp), show i = 0 by omega]
          refine ws_one (ws_forB (l := [os.take i]) (enc := fun l => .tuple (l.map .int)) rfl ?_ g4.bh fun B5 H5 g5 => ?_)
          · show XI_ _ _ _ _ _ [PyData.tuple ((os.take i).map .int)]
            rw [← etk]
            exact xi_cmb (b := decide (i = 1)) rfl T.g_comb (x_var 5 rfl (Dq.up s4 _ _ p1')) (x_var 6 rfl dv') (by rw [List.length_map]; exact ho) (fun h => by rw [List.length_map]; have := of_decide_eq_true h; omega)
          · refine ⟨fun j σ' B' H' => (∃ x7 x8 x9, σ' = [some v1, some v2, some v3, some v4, some v5, some ov, some v, x7, x8, x9]) ∧ Gr B4 H4 B' H' ∧ Same B5 B' ∧ (0 < j → hasWay hd ships st (keptAlone pr (os.take i ++ [ship])) = true),
              ⟨⟨_, _, _, rfl⟩, g5, .refl _, fun h => absurd h (Nat.lt_irrefl _)⟩, fun i σ' B' H' h => ⟨h.2.2.1, h.2.1.bh⟩, ?_, ?_⟩
            · rintro j names nv σ' B' H' B6 H6 ej ⟨⟨x7, x8, x9, rfl⟩, g4j, sj, hj⟩ g6 dn
              obtain rfl : names = os.take i := by
                cases j with
                | zero => simpa using ej.symm
                | succ j => simp at ej
              have g46 := g4j.trans g6
              have g16 := g14.trans g46
              have s6 := g16.bb
              have hz : ((os.take i).map PyData.int ++ [PyData.int ship]).length ≤ sizeLine := by
                rw [List.length_append, List.length_map, List.length_take, line_big]
                simp
                omega
              refine ⟨_, xg_name 7 sc49.nd, ?_⟩
              refine ws_one (ws_if (t := !hasWay hd ships st (keptAlone pr (os.take i ++ [ship]))) (xt_not (xt_v (x_call (y := (hd, ships, st, keptAlone pr (os.take i ++ [ship]))) (dn47 T) hr rfl ?_))) g6.bh ?_ ?_)
              · refine XA.imp (P := DDs K [eHarb hd, eShips ships, eSta st, eProm (keptAlone pr (os.take i ++ [ship]))]) (xd_cons (x_var 0 rfl (Dq.up s6 _ _ r1')) (xd_cons (x_var 1 rfl (Dq.up s6 _ _ r2')) (xd_cons (x_var 2 rfl (Dq.up s6 _ _ r3')) (xd_cons ?_ xd_nil)))) fun C vs _ a => ⟨⟨wd, stt, by show (keptAlone pr _).length = _; rw [kept_len]; exact h1⟩, a⟩
                refine x_call (y := (pr, os.take i ++ [ship])) (dn48 T) (hr.mono (by decide)) rfl (XA.imp (P := DDs K [eProm pr, .list ((os.take i).map PyData.int ++ [PyData.int ship])]) (xd_cons (x_var 3 rfl (Dq.up s6 _ _ r4')) (xd_cons (x_lst (xd_star (x_var 7 rfl dn) (.inr rfl) (xd_cons (x_var 4 rfl (Dq.up s6 _ _ r5')) xd_nil)) hz) xd_nil)) fun C vs _ a => ⟨by show pr.length ≤ 100; omega, ?_⟩)
                show DqAll K C vs [eProm pr, .list ((os.take i ++ [ship]).map .int)]
                rw [List.map_append]
                exact a
              · intro hc B7 H7 g7
                have hf : hasWay hd ships st (keptAlone pr (os.take i ++ [ship])) = false := by simpa using hc
                have e : clashOf hd ships st pr ship = some (os.take i) := by
                  rw [← hos] at hin hall hf ⊢
                  exact clash_some hin hall hf
                have hz2 : ((os.take i).map PyData.int ++ []).length ≤ sizeLine := by
                  rw [List.append_nil, List.length_map, List.length_take, line_big]
                  omega
                refine ws_one (ws_ret (P := DD K (.list ((os.take i).map PyData.int ++ []))) (x_lst (xd_star (x_var 7 rfl (Dq.up g7.bb _ _ dn)) (.inr rfl) xd_nil) hz2) g7.bh fun v' B8 H8 g8 p8 => q v' B8 H8 (((g1.trans g16).trans g7).trans g8) ?_)
                show Dq K B8 v' (eClash (clashOf hd ships st pr ship))
                rw [e]
                rw [List.append_nil] at p8
                exact p8
              · intro hc B7 H7 g7
                refine ws_nil ⟨B7, ⟨_, _, _, rfl⟩, g46.trans g7, (sj.trans g6.bb).trans g7.bb, fun _ => by simpa using hc⟩
            · rintro σ' B' H' ⟨⟨x7, x8, x9, rfl⟩, g4j, sj, hj⟩
              refine ⟨B', ⟨_, _, _, _, rfl⟩, g14.trans g4j, ((sB.trans g4.bb).trans g5.bb).trans sj, fun n hn => ?_⟩
              by_cases h : n = i
              · subst h
                exact hj (Nat.succ_pos _)
              · exact hall n (by omega)
        · rintro σ' B' H' ⟨⟨x6, x7, x8, x9, rfl⟩, gg, sB, hall⟩
          have e : clashOf hd ships st pr ship = none := by
            refine clash_none fun n hn => ?_
            rw [hos] at hn ⊢
            exact hall n (by rw [List.length_range]; exact hn)
          refine ws_one (ws_ret (P := DD K .none) x_non gg.bh fun v' B8 H8 g8 p8 => q v' B8 H8 ((g1.trans gg).trans g8) ?_)
          show Dq K B8 v' (eClash (clashOf hd ships st pr ship))
          rw [e]
          exact p8
end
end TW
/-! W12: is_within, check_row, check_harbour, check_ships (where nothing is raised). -/
namespace TW
open PySem PySem.Spec PyProof.Rows L2
def inB (v lo hi : Int) : Bool := decide (lo ≤ v) && decide (v ≤ hi)
def shipInts (s : Ship) : List Int := [s.ready, s.length, s.draught, s.stay, s.tugs, s.sea, s.lie]
def bounds : List (Int × Int) := [(0, 20), (1, 9), (0, 40), (1, 4), (0, 3), (0, 9), (0, 9)]
theorem eShip_eq (s : Ship) : eShip s = .tuple ((shipInts s).map .int) := rfl
structure LegalH (h : Harb) : Prop where
  d1 : 1 ≤ h.depths.length ∧ h.depths.length ≤ 12
  d2 : ∀ n ∈ h.depths, inB n 0 40 = true
  b1 : 1 ≤ h.berths.length ∧ h.berths.length ≤ 2
  b2 : ∀ n ∈ h.berths, inB n 1 9 = true
  tg : inB h.tugs 0 6 = true
  pi : inB h.pilots 1 3 = true
  la : inB h.last 1 40 = true
structure LegalS (ships : List Ship) : Prop where
  n : 1 ≤ ships.length ∧ ships.length ≤ 3
  b : ∀ s ∈ ships, ∀ p ∈ (shipInts s).zip bounds, inB p.1 p.2.1 p.2.2 = true
section
variable {P : Program} {w : World} {K : PySem.W.Frag} {mg : Str → Option Value} {base : Heap}
theorem dn13 (T : Txt K mg) : Dn P w K mg base CX0 1 "is_within" ["value", "low", "high"] (SpP (fun (y : Int × Int × Int) B vs => DqAll K B vs [.int y.1, .int y.2.1, .int y.2.2]) fun y => DD K (.bool (inB y.1 y.2.1 y.2.2))) :=
  dn_of T.f13 sc13 (fun _ _ _ _ _ _ us hl => match us, hl with | [_, _, _], _ => rfl) (fun y B vs h => h.length) fun f cdv A0 outer s H vs E y B Q hr sb ha q => by
    obtain ⟨v1, v2, v3, rfl, r1, r2, r3⟩ := inv3 ha
    refine ws_one (ws_ret (P := DD K (.bool (true && (!false && inB y.1 y.2.1 y.2.2)))) ?_ sb q)
    refine x_and (x_isiI rfl T.b_isinstance rfl T.b_int (by decide +kernel) T.i_int (x_var 0 rfl r1)) fun _ => x_and (x_not (x_isiI rfl T.b_isinstance rfl T.b_bool (by decide +kernel) T.i_bool (x_var 0 rfl r1))) fun _ => x_and1 ?_
    exact x_chain c_le c_le (x_var 1 rfl r2) (x_var 0 rfl r1) (x_var 2 rfl r3)
theorem dn14 (T : Txt K mg) : Dn P w K mg base CX0 2 "check_row" ["row", "most", "low", "high"] (SpP (fun (y : List Int × Int × Int × Int) B vs => ((1 ≤ y.1.length ∧ (y.1.length : Int) ≤ y.2.1 ∧ y.1.length ≤ 1000) ∧ ∀ n ∈ y.1, inB n y.2.2.1 y.2.2.2 = true) ∧ DqAll K B vs [eInts y.1, .int y.2.1, .int y.2.2.1, .int y.2.2.2]) fun y => DD K .none) :=
  dn_of T.f14 sc14 (fun _ _ _ _ _ _ us hl => match us, hl with | [_, _, _, _], _ => rfl) (fun y B vs h => h.2.length) fun f cdv A0 outer s H vs E y B Q hr sb ha q => by
    obtain ⟨row, most, lo, hi⟩ := y
    obtain ⟨⟨⟨l1, l2, l3⟩, hall⟩, hv⟩ := ha
    change 1 ≤ row.length at l1
    change (row.length : Int) ≤ most at l2
    change row.length ≤ 1000 at l3
    change ∀ n ∈ row, inB n lo hi = true at hall
    obtain ⟨v1, v2, v3, v4, rfl, r1, r2, r3, r4⟩ := inv4 hv
    have el : ((row.map PyData.int).length : Int) = (row.length : Int) := by rw [List.length_map]
    refine ws_cons (ws_if (t := !(decide ((1 : Int) ≤ (row.length : Int)) && decide ((row.length : Int) ≤ most))) (xt_not (xt_chain c_le c_le x_int (by rw [← el]; exact x_lenL rfl T.b_len (x_var 0 rfl r1)) (x_var 1 rfl r2))) sb (fun h => ?_) fun _ B1 H1 g1 => ?_)
    · rw [decide_eq_true (by omega), decide_eq_true l2] at h
      cases h
    · refine ws_nil (ws_one (ws_if (t := !((row.map fun n => inB n lo hi).all id)) (xt_not (xt_v (x_all rfl rfl T.b_all ?_))) g1.bh (fun h => ?_) fun _ B2 H2 g2 => ?_))
      · refine x_lcM (l := row) (enc := .int) (own := o14_0) _ (xi_list (x_var 0 rfl (Dq.up g1.bb _ _ r1))) ?_ (by rw [line_big]; omega) rfl sc14.nd bk14_0
        intro i a v B' ea sb' hd
        apply lc_map
        · rintro XB ⟨_, _, _, _, _, rfl⟩
          refine ⟨xg_name 4 sc14.nd, ?_⟩
          exact x_call (y := (a, lo, hi)) (dn13 T) hr rfl (xd_cons (x_var 4 rfl hd) (xd_cons (x_var 2 rfl (Dq.up (g1.bb.trans sb') _ _ r3)) (xd_cons (x_var 3 rfl (Dq.up (g1.bb.trans sb') _ _ r4)) xd_nil)))
        · rfl
      · have e : (row.map fun n => inB n lo hi).all id = true := by
          rw [List.all_eq_true]
          intro b hb
          obtain ⟨n, hn, rfl⟩ := List.mem_map.mp hb
          exact hall n hn
        rw [e] at h
        cases h
      · exact ws_nil (q .non B2 H2 (g1.trans g2) .non)
theorem dn15 (T : Txt K mg) : Dn P w K mg base CX0 3 "check_harbour" ["harbour"] (SpP (fun (y : Harb) B vs => LegalH y ∧ DqAll K B vs [eHarb y]) fun y => DD K .none) :=
  dn_of T.f15 sc15 (fun _ _ _ _ _ _ us hl => match us, hl with | [_], _ => rfl) (fun y B vs h => h.2.length) fun f cdv A0 outer s H vs E y B Q hr sb ha q => by
    obtain ⟨lg, hv⟩ := ha
    obtain ⟨v1, rfl, r1⟩ := inv1 hv
    obtain ⟨a, u1, u2, u3, u4, u5, rfl, hq, q1, q2, q3, q4, q5⟩ := tup5 r1
    refine ws_cons (ws_asg (P := Is (.ref a)) (x_var 0 rfl rfl) sb fun v B1 H1 g1 p1 => ?_)
    obtain rfl : v = .ref a := p1
    refine ⟨_, xg_tup rfl (Same.seqT g1.bb hq) (xgs_cons (xg_name 1 sc15.nd) (xgs_cons (xg_name 2 sc15.nd) (xgs_cons (xg_name 3 sc15.nd) (xgs_cons (xg_name 4 sc15.nd) (xgs_cons (xg_name 5 sc15.nd) xgs_nil))))), ?_⟩
    have s1 := g1.bb
    have hd1 := lg.d1
    have hb1 := lg.b1
    refine ws_cons (ws_expr (P := DD K .none) (x_call (y := (y.depths, 12, 0, 40)) (dn14 T) hr rfl (XA.imp (P := DDs K [eInts y.depths, .int 12, .int 0, .int 40]) (xd_cons (x_var 1 rfl (Dq.up s1 _ _ q1)) (xd_cons x_int (xd_cons x_int (xd_cons x_int xd_nil)))) fun C vs _ a => ⟨⟨⟨hd1.1, by show (y.depths.length : Int) ≤ 12; omega, by show y.depths.length ≤ 1000; omega⟩, lg.d2⟩, a⟩)) g1.bh fun v2 B2 H2 g2 p2 => ?_)
    have s2 := s1.trans g2.bb
    refine ws_cons (ws_expr (P := DD K .none) (x_call (y := (y.berths, 2, 1, 9)) (dn14 T) hr rfl (XA.imp (P := DDs K [eInts y.berths, .int 2, .int 1, .int 9]) (xd_cons (x_var 2 rfl (Dq.up s2 _ _ q2)) (xd_cons x_int (xd_cons x_int (xd_cons x_int xd_nil)))) fun C vs _ a => ⟨⟨⟨hb1.1, by show (y.berths.length : Int) ≤ 2; omega, by show y.berths.length ≤ 1000; omega⟩, lg.b2⟩, a⟩)) g2.bh fun v3 B3 H3 g3 p3 => ?_)
    have s3 := s2.trans g3.bb
    have g13 := (g1.trans g2).trans g3
    refine ws_one (ws_if (t := !inB y.tugs 0 6 || (!inB y.pilots 1 3 || !inB y.last 1 40)) (xt_w (xw_or (xt_not (xt_v (x_call (y := (y.tugs, 0, 6)) (dn13 T) (hr.mono (by decide)) rfl (xd_cons (x_var 3 rfl (Dq.up s3 _ _ q3)) (xd_cons x_int (xd_cons x_int xd_nil)))))) fun _ => xw_or (xt_not (xt_v (x_call (y := (y.pilots, 1, 3)) (dn13 T) (hr.mono (by decide)) rfl (xd_cons (x_var 4 rfl (Dq.up s3 _ _ q4)) (xd_cons x_int (xd_cons x_int xd_nil)))))) fun _ => xw_or1 (xt_not (xt_v (x_call (y := (y.last, 1, 40)) (dn13 T) (hr.mono (by decide)) rfl (xd_cons (x_var 5 rfl (Dq.up s3 _ _ q5)) (xd_cons x_int (xd_cons x_int xd_nil)))))))) g3.bh (fun h => ?_) fun _ B4 H4 g4 => ?_)
    · rw [lg.tg, lg.pi, lg.la] at h
      cases h
    · exact ws_nil (q .non B4 H4 (g13.trans g4) .non)
theorem dn16 (T : Txt K mg) : Dn P w K mg base CX0 2 "check_ships" ["ships"] (SpP (fun (y : List Ship) B vs => LegalS y ∧ DqAll K B vs [eShips y]) fun y => DD K .none) :=
  dn_of T.f16 sc16 (fun _ _ _ _ _ _ us hl => match us, hl with | [_], _ => rfl) (fun y B vs h => h.2.length) fun f cdv A0 outer s H vs E y B Q hr sb ha q => by
    obtain ⟨lg, hv⟩ := ha
    obtain ⟨v1, rfl, r1⟩ := inv1 hv
    have hn := lg.n
    have el : ((y.map eShip).length : Int) = (y.length : Int) := by rw [List.length_map]
    refine ws_cons (ws_if (t := !(decide ((1 : Int) ≤ (y.length : Int)) && decide ((y.length : Int) ≤ 3))) (xt_not (xt_chain c_le c_le x_int (by rw [← el]; exact x_lenL rfl T.b_len (x_var 0 rfl r1)) x_int)) sb (fun h => ?_) fun _ B1 H1 g1 => ?_)
    · rw [decide_eq_true (by omega), decide_eq_true (by omega)] at h
      cases h
    · have r1' := Dq.up g1.bb _ _ r1
      refine ws_nil (ws_one (ws_forB (l := y.zipIdx) (enc := fun p => .tuple [.int (p.2 : Int), eShip p.1]) rfl ?_ g1.bh fun B2 H2 g2 => ?_))
      · rw [← enD_map]
        exact xi_enum rfl T.b_enumerate (x_var 0 rfl r1')
      · refine ⟨fun i σ' B' H' => (∃ x1 x2 x3 x4 x5, σ' = [some v1, x1, x2, x3, x4, x5]) ∧ Gr B H B' H' ∧ Same B2 B', ⟨⟨_, _, _, _, _, rfl⟩, g1.trans g2, .refl _⟩, fun i σ' B' H' h => ⟨h.2.2, h.2.1.bh⟩, ?_, ?_⟩
        · rintro i ⟨sh, n⟩ v σ' B' H' B3 H3 ea ⟨⟨x1, x2, x3, x4, x5, rfl⟩, gg, sB⟩ g3 dv
          obtain ⟨b, w1, w2, rfl, hq, t1, t2⟩ := tup2 dv
          obtain ⟨e1, rfl⟩ := zipIdx_at ea
          have g3' := gg.trans g3
          refine ⟨_, xg_tup rfl hq (xgs_cons (xg_name 1 sc16.nd) (xgs_cons (xg_name 2 sc16.nd) xgs_nil)), ?_⟩
          refine ws_one (ws_forB (l := (shipInts sh).zip bounds) (enc := fun p => .tuple [.int p.1, ePair p.2]) rfl ?_ g3.bh fun B4 H4 g4 => ?_)
          · rw [← zpD_map]
            exact xi_zipT rfl T.b_zip (x_var 2 rfl t2) (x_con T.c_BOUNDS rfl)
          · refine ⟨fun j σ' B' H' => (∃ x3 x4 x5, σ' = [some v1, some w1, some w2, x3, x4, x5]) ∧ Gr B H B' H' ∧ Same B4 B', ⟨⟨_, _, _, rfl⟩, g3'.trans g4, .refl _⟩, fun i σ' B' H' h => ⟨h.2.2, h.2.1.bh⟩, ?_, ?_⟩
            · rintro j ⟨nm, lo, hi⟩ v σ' B' H' B5 H5 ej ⟨⟨x3, x4, x5, rfl⟩, gj, sj⟩ g5 dv
              obtain ⟨b, w3, w4, rfl, hq, t3, t4⟩ := tup2 dv
              obtain ⟨b2, w5, w6, rfl, hq2, t5, t6⟩ := tup2 t4
              have hok := lg.b sh (List.mem_of_getElem? e1) _ (List.mem_of_getElem? ej)
              refine ⟨_, xg_tup rfl hq (xgs_cons (xg_name 3 sc16.nd) (xgs_cons (xg_tup rfl hq2 (xgs_cons (xg_name 4 sc16.nd) (xgs_cons (xg_name 5 sc16.nd) xgs_nil))) xgs_nil)), ?_⟩
              refine ws_one (ws_if (t := !inB nm lo hi) (xt_not (xt_v (x_call (y := (nm, lo, hi)) (dn13 T) hr rfl (xd_cons (x_var 3 rfl t3) (xd_cons (x_var 4 rfl t5) (xd_cons (x_var 5 rfl t6) xd_nil)))))) g5.bh (fun h => ?_) fun _ B6 H6 g6 => ?_)
              · rw [show inB nm lo hi = true from hok] at h
                cases h
              · exact ws_nil ⟨B6, ⟨_, _, _, rfl⟩, (gj.trans g5).trans g6, (sj.trans g5.bb).trans g6.bb⟩
            · rintro σ' B' H' ⟨⟨x3, x4, x5, rfl⟩, gj, sj⟩
              exact ⟨B', ⟨_, _, _, _, _, rfl⟩, gj, ((sB.trans g3.bb).trans g4.bb).trans sj⟩
        · rintro σ' B' H' ⟨⟨x1, x2, x3, x4, x5, rfl⟩, gg, sB⟩
          exact q .non B' H' gg .non
end
end TW
/-! WK: own classes: cells that change, lists of values, fields, methods, making. -/
namespace TW
open PySem PySem.Spec PyProof.Rows L2
/-! ### a cell of one's own -/
/-- a cell of the caller's own was handed on and came back changed -/
theorem Gr.own {B0 H0 B H B' H' : Hp} {c : Addr} (g : Gr B0 H0 B H) (h0 : H0 c = none) (g2 : Gr B (dropA H c) B' H') : Gr B0 H0 B' H' := by
  refine ⟨fun a o e => ?_, g.bb.trans g2.bb, g2.bh, fun a e => ?_⟩
  · refine g2.hh a o ?_
    rw [dropA_ne (by rintro rfl; rw [h0] at e; cases e)]
    exact g.hh a o e
  · rcases g2.fr a e with z | z
    · exact g.fr a z
    · by_cases q : a = c
      · exact .inr (q ▸ h0)
      · rw [dropA_ne q] at z
        exact .inr (g.hh.free z)
theorem same_drop {B H : Hp} {c : Addr} (s : Same B H) (h : B c = none) : Same B (dropA H c) := fun a o e => by
  rw [dropA_ne (by rintro rfl; rw [h] at e; cases e)]
  exact s a o e
/-- the start: the cell at c is taken out of what the caller had -/
theorem Gr.takeOut {B H : Hp} {c : Addr} (s : Same B H) (h : B c = none) : Gr B (dropA H c) B H := ⟨dropA_sub, .refl _, s, fun _ e => .inl e⟩
theorem noSeq_ins {B : Hp} {F C dx : Addr} {fs : List (Str × V)} (h : B F = some (.ins C dx fs)) : NoSeq B F := ⟨fun xs z => (by rw [h] at z; cases z), fun xs z => (by rw [h] at z; cases z), fun o xs z => (by rw [h] at z; cases z)⟩
/-- while the instance at F is taken as it is -/
theorem at_frozenI {X : Cx} {e : Expr} {σ : L2.St} {B H : Hp} {F C dx : Addr} {fs : List (Str × V)} {P P2 : Hp → V → Prop} (h : XE X e σ (upd B F (.ins C dx fs)) P) (hP : ∀ B' v, B' F = some (.ins C dx fs) → P B' v → P2 (dropA B' F) v) (s : Same B H) (hF : H F = some (.ins C dx fs)) (bF : B F = none) : XEat X e σ B H P2 := fun Q k =>
  h H (same_upd s hF) Q fun v B' H' g p => k v _ H' (g.unfreeze bF) (hP B' v (g.bb F _ upd_same) p)
theorem dd_drop {K : PySem.W.Frag} {d : PyData} {B' : Hp} {F C dx : Addr} {fs : List (Str × V)} {v : V} (h : B' F = some (.ins C dx fs)) (p : DD K d B' v) : DD K d (dropA B' F) v := Dq.drop (noSeq_ins h) _ _ p
/-! ### lists of values, as they are -/
def IsLs (xs : List V) : Hp → V → Prop := fun B v => ∃ a, v = .ref a ∧ B a = some (.lst xs)
instance {xs : List V} : Mono (IsLs xs) := ⟨fun s h => by
  obtain ⟨a, e, h⟩ := h
  exact ⟨a, e, s _ _ h⟩⟩
def IsAllV (P : Hp → V → Prop) : Hp → List V → Prop := fun B vs => ∃ v, vs = [v] ∧ P B v
section
variable {X : Cx} {e a b o value : Expr} {σ : L2.St} {B C H : Hp} {P P1 P2 : Hp → V → Prop} {pos pos' pp p2 : Pos} {xs ys : List V} {D : Ends}
theorem x_slV {lo hi : Option Expr} {l u : Option Int} (ha : XE X a σ B (IsLs xs)) (hl : XO X lo σ B l) (hu : XO X hi σ B u) : XE X (.Subscript a (.Slice lo hi none p2) pos) σ B (IsLs (cutV xs l u)) := fun H s Q k => by
  refine we_of (pe_slice sl_list peW poW poW) ?_
  refine ha H s _ fun v B1 H1 g1 p1 => ?_
  refine xo (hl.up g1.bb) H1 g1.bh _ fun B2 H2 g2 => ?_
  refine xo (hu.up (g1.bb.trans g2.bb)) H2 g2.bh _ fun B3 H3 g3 => ?_
  obtain ⟨p, rfl, h1⟩ := p1
  have g := (g1.trans g2).trans g3
  exact ⟨p, xs, rfl, .of (g3.hh _ _ (g2.hh _ _ (g1.bh _ _ h1))), fun q hq => k _ _ _ (g.trans (.new g3.bh hq)) ⟨q, rfl, upd_same⟩⟩
theorem x_catV (ha : XE X a σ B (IsLs xs)) (hb : XE X b σ B (IsLs ys)) (hl : xs.length + ys.length ≤ sizeLine) : XE X (.BinOp a .Add b pos) σ B (IsLs (xs ++ ys)) :=
  x_bin op_cat ha hb fun C H v u bc s pv pu Q k => by
    obtain ⟨l, rfl, h1⟩ := pv
    obtain ⟨m, rfl, h2⟩ := pu
    exact ⟨l, m, xs, ys, rfl, rfl, s _ _ h1, s _ _ h2, hl, fun p hp => k _ _ _ (.new s hp) ⟨p, rfl, upd_same⟩⟩
/-- [e]: what is known of the item goes along -/
theorem x_lst1 [Mono P] (h : XE X e σ B P) (hs : starEach [e] X.env = (false, eval e X.env) :: starEach [] X.env := by rfl) : XE X (.List [e] pos) σ B (fun C v => ∃ u, IsLs [u] C v ∧ P C u) := fun H s Q k => by
  refine we_of (pe_lst paW) ((xp_cons h xp_nil hs) H s _ fun vs B1 H1 g1 p1 => ?_)
  obtain ⟨v, r, rfl, pv, rfl⟩ := p1
  exact ⟨by show 1 ≤ sizeLine; decide, fun p hp => k _ _ _ (g1.trans (.new g1.bh hp)) ⟨v, ⟨p, rfl, upd_same⟩, Mono.up (same_new (g1.bh.free hp)) pv⟩⟩
theorem x_ixV {i : Int} {v : V} (ha : XE X a σ B (IsLs xs)) (hb : XI X b σ B i) (h : atI xs i = some v) (hs : PlainIx b := by intro _ _; rfl) : XE X (.Subscript a b pos) σ B (Is v) := fun H s Q k => by
  refine we_of (pe_ix ix_seq peW peW hs) ?_
  refine ha H s _ fun w B1 H1 g1 p1 => ?_
  refine hb.up g1.bb H1 g1.bh _ fun u B2 H2 g2 p2 => ?_
  have hu := Dq.int_v p2
  subst hu
  obtain ⟨l, rfl, h1⟩ := p1
  exact .inl ⟨l, xs, i, v, rfl, rfl, .of (g2.hh _ _ (g1.bh _ _ h1)), h, k v B2 H2 (g1.trans g2) rfl⟩
theorem x_lenV (hg : Gl X "len") (hm : X.mg "len" = none) (ha : XE X e σ B (IsLs xs)) (hs1 : starEach [e] X.env = (false, eval e X.env) :: starEach [] X.env := by rfl) : XI X (.Call (.Name "len" pp) [e] [] pos) σ B (xs.length : Int) :=
  x_callB (P0 := PCons (IsLs xs) PNil) call_len_seq hg hm boot_len (xp_cons ha xp_nil hs1) (he := hs1) fun C H vs _ s pv Q k => by
    obtain ⟨v, r, rfl, ⟨l, rfl, h1⟩, rfl⟩ := pv
    exact ⟨l, xs, rfl, .inl (.of (s _ _ h1)), k _ C H (.rfl s) (.int _)⟩
/-- an expression that is at hand, whatever it is -/
theorem x_is {i : Nat} {x : Str} {v : V} (h : σ[i]? = some (some v)) (hN : X.N[i]? = some x := by rfl) (hv : Vis X.env.scope x := by first | exact Or.inl rfl | exact Or.inr (Or.inl rfl) | exact Or.inr (Or.inr rfl)) (hd : (x == ("__debug__" : Str)) = false := by decide)
    (hcd : (x == ("__classdict__" : Str)) = false := by decide) : XE X (.Name x pos) σ B (Is v) := x_var i h rfl hN hv hd hcd
/-! ### fields -/
/-- o.f = e on an own instance at a -/
theorem ws_fld {f : Str} {c CA dx : Addr} {fs : List (Str × V)} [Mono P] (hv : XEat X value σ B H P) (ho : ∀ C, Same B C → XE X o σ C (Is (.ref c))) (hc : H c = some (.ins CA dx fs)) (cl : Cls X.K CA) (n : NoAttr X.K CA f) (hl : fs.length < 1000)
    (k : ∀ v B' H', Gr B H B' H' → P B' v → H' c = some (.ins CA dx fs) → D.nx σ (upd H' c (.ins CA dx (putF f v fs)))) (hs : swapsWith value (some (.Attribute o f pos')) pos.line X.env = pure false := by rfl) : WS X (.Assign [.Attribute o f pos'] value pos) D σ H := by
  refine ws_of (ps_fld peW peW hs) (hv _ fun v B1 H1 g1 p1 => ?_)
  refine ho B1 g1.bb H1 g1.bh _ fun u B2 H2 g2 p2 => ?_
  obtain rfl : u = .ref c := p2
  have g := g1.trans g2
  exact ⟨c, CA, dx, fs, rfl, g.hh _ _ hc, cl, n, hl, k v B2 H2 g (Mono.up g2.bb p1) (g.hh _ _ hc)⟩
end
/-- an own instance, growing: its fields and what is known -/
structure Cell (B0 H0 : Hp) (c C dx : Addr) (fs : List (Str × V)) (B' H' : Hp) : Prop where
  gr : Gr B0 H0 B' H'
  lo : B' c = none
  at' : H' c = some (.ins C dx fs)
section
variable {B0 H0 B H B' H' : Hp} {c C dx : Addr} {fs : List (Str × V)}
theorem Cell.bh (a : Cell B0 H0 c C dx fs B H) : Same B H := a.gr.bh
theorem Cell.step (a : Cell B0 H0 c C dx fs B H) (g : Gr B H B' H') : Cell B0 H0 c C dx fs B' H' := ⟨a.gr.trans g, g.low a.lo (by rw [a.at']; intro z; cases z), g.hh _ _ a.at'⟩
theorem Cell.put {fs' : List (Str × V)} (a : Cell B0 H0 c C dx fs B H) (h : H0 c = none) : Cell B0 H0 c C dx fs' B (upd H c (.ins C dx fs')) := ⟨a.gr.mut h a.lo, a.lo, upd_same⟩
theorem Cell.done (a : Cell B0 H0 c C dx fs B H) (h : H0 c = none) : Gr B0 H0 (upd B c (.ins C dx fs)) H ∧ Same B (upd B c (.ins C dx fs)) := ⟨a.gr.freeze h a.at', same_new a.lo⟩
end
section
variable {X : Cx} {o value : Expr} {σ : L2.St} {B H B0 H0 : Hp} {P : Hp → V → Prop} {pos pos' : Pos} {D : Ends} {c C dx : Addr} {fs : List (Str × V)} {f : Str}
theorem ws_cellPut [Mono P] (a : Cell B0 H0 c C dx fs B H) (h0 : H0 c = none) (hv : XEat X value σ B H P) (ho : ∀ C', Same B C' → XE X o σ C' (Is (.ref c))) (cl : Cls X.K C) (n : NoAttr X.K C f) (hl : fs.length < 1000)
    (k : ∀ v B' H', Same B B' → P B' v → Cell B0 H0 c C dx (putF f v fs) B' H' → D.nx σ H') (hs : swapsWith value (some (.Attribute o f pos')) pos.line X.env = pure false := by rfl) : WS X (.Assign [.Attribute o f pos'] value pos) D σ H :=
  ws_fld hv ho a.at' cl n hl (fun v B' H' g p _ => k v B' _ g.bb p ((a.step g).put h0)) hs
end
end TW
/-! WK2: class State. -/
namespace TW
open PySem PySem.Spec PyProof.Rows L2
theorem Fun.okN {P : Program} {w : World} {K : PySem.W.Frag} {mg : Str → Option Value} {base : Heap} {x qual : Str} {st : Stmt} {f : Addr} {fd : FuncData} {N ps : List Str} {k : Nat} {sp : Sp} (F : Fun K x qual st f fd) (S : FnScope N ps (defScope st)) (len : ∀ vs H Q E, sp vs H Q E → vs.length = ps.length)
    (hbody : ∀ (cdv : Value) (A : Around) (outer : List Env) (s : Shared) (H : Hp) (vs : List V) (Q : VK) (E : XK), Room k (A.deeper (envOfC qual (defScope st) s.heap.objs.size f cdv)) → sp vs H Q E →
      ∃ t, PSs (cxOf (L2N.CX P w) P w K mg base N qual (defScope st) f cdv A outer s H E) (defBody st) t ∧ t { nx := fun _ H' => Q .non H', rt := Q } (start N vs) H) : FnOk P w K mg base (L2N.CX P w) (k + 1) f fd ps sp := by
  obtain ⟨oc, od, kV, doc, pm, an, cdv, ct, osl, rfl, lk, hcd⟩ := F.ex
  exact fn_of lk hcd S len fun A outer s H vs Q E hr h => hbody cdv A outer s H vs Q E hr h
/-- what a state of the console holds -/
structure StD where
  h : Harb
  ships : List Ship
  here : Sta
  done : List Trip
  pr : Lat
  way : List Trip
def stF (v1 v2 v3 v4 v5 v6 : V) : List (Str × V) := [("harbour", v1), ("ships", v2), ("here", v3), ("done", v4), ("promises", v5), ("way", v6)]
def IsSt (K : PySem.W.Frag) (CS : Addr) (y : StD) : Hp → V → Prop := fun B v => ∃ a dx v1 v2 v3 v4 v5 v6, v = .ref a ∧ B a = some (.ins CS dx (stF v1 v2 v3 v4 v5 v6)) ∧
  Dq K B v1 (eHarb y.h) ∧ Dq K B v2 (eShips y.ships) ∧ Dq K B v3 (eSta y.here) ∧ Dq K B v4 (eTrips y.done) ∧ Dq K B v5 (eProm y.pr) ∧ Dq K B v6 (eTrips y.way)
instance {K : PySem.W.Frag} {CS : Addr} {y : StD} : Mono (IsSt K CS y) := ⟨fun s h => by
  obtain ⟨a, dx, v1, v2, v3, v4, v5, v6, e, h0, h1, h2, h3, h4, h5, h6⟩ := h
  exact ⟨a, dx, v1, v2, v3, v4, v5, v6, e, s _ _ h0, Dq.up s _ _ h1, Dq.up s _ _ h2, Dq.up s _ _ h3, Dq.up s _ _ h4, Dq.up s _ _ h5, Dq.up s _ _ h6⟩⟩
structure TxtS (K : PySem.W.Frag) (mg : Str → Option Value) (CS : Addr) : Prop where
  mg_ : mg "State" = some (.ref CS)
  cls : Cls K CS
  ini : ∃ f fd, Mk K CS f ∧ Fun K "__init__" "State.__init__" (meth 51 0) f fd
  no : ∀ f ∈ (["harbour", "ships", "here", "done", "promises", "way"] : List Str), NoAttr K CS f
  m1 : ∃ f fd, Meth K CS "plan_of" f ∧ Fun K "plan_of" "State.plan_of" (meth 51 1) f fd
  m2 : ∃ f fd, Meth K CS "cost_now" f ∧ Fun K "cost_now" "State.cost_now" (meth 51 2) f fd
/-- raise NoWay() does -/
def RaiseNW (P : Program) (K : PySem.W.Frag) (mg : Str → Option Value) (CN : Addr) : Prop := ∀ (X : Cx) (W : WX) (D : Ends) (σ : L2.St) (H : Hp) (p1 p2 p3 : Pos), X.prog = P → X.K = K → X.mg = mg → X.calm = true → L2N.Takes X W → Gl X "NoWay" → Room 3 X.A →
  (∀ d H', Same H H' → W (.ref CN) d σ H') → WS X (.Raise (some (.Call (.Name "NoWay" p1) [] [] p2)) none p3) D σ H
def ASt (K : PySem.W.Frag) (y : Harb × List Ship × Sta × List Trip × Lat) (B : Hp) (vs : List V) : Prop := (Wd y.1 y.2.1 ∧ Stt y.1 y.2.1 y.2.2.1 ∧ y.2.2.2.2.length = y.2.1.length) ∧ DqAll K B vs [eHarb y.1, eShips y.2.1, eSta y.2.2.1, eTrips y.2.2.2.1, eProm y.2.2.2.2]
def mkSt (y : Harb × List Ship × Sta × List Trip × Lat) : StD := ⟨y.1, y.2.1, y.2.2.1, y.2.2.2.1, y.2.2.2.2, wayOn y.1 y.2.1 y.2.2.1 y.2.2.2.2⟩
/-- State.__init__ -/
def SpInitS (K : PySem.W.Frag) (CS CN : Addr) : Sp := fun vs H Q E => ∃ (y : Harb × List Ship × Sta × List Trip × Lat) (B : Hp) (a dx : Addr) (args : List V), Same B H ∧ B a = none ∧ H a = some (.ins CS dx []) ∧ vs = .ref a :: args ∧ ASt K y B args ∧
  (hasWay y.1 y.2.1 y.2.2.1 y.2.2.2.2 = true → ∀ B' H' v1 v2 v3 v4 v5 v6, Gr B (dropA H a) B' H' → B' a = none → H' a = some (.ins CS dx (stF v1 v2 v3 v4 v5 v6)) →
    Dq K B' v1 (eHarb y.1) → Dq K B' v2 (eShips y.2.1) → Dq K B' v3 (eSta y.2.2.1) → Dq K B' v4 (eTrips y.2.2.2.1) → Dq K B' v5 (eProm y.2.2.2.2) → Dq K B' v6 (eTrips (wayOn y.1 y.2.1 y.2.2.1 y.2.2.2.2)) → Q .non H') ∧
  (hasWay y.1 y.2.1 y.2.2.1 y.2.2.2.2 = false → ∀ d H', Same (dropA H a) H' → E (.ref CN) d H')
section
variable {P : Program} {w : World} {K : PySem.W.Frag} {mg : Str → Option Value} {base : Heap} {CS CN : Addr}
theorem fn_stInit (T : Txt K mg) (C : TxtS K mg CS) (NW : RaiseNW P K mg CN) {f : Addr} {fd : FuncData} (F : Fun K "__init__" "State.__init__" (meth 51 0) f fd) : FnOk P w K mg base (L2N.CX P w) 8 f fd ["self", "harbour", "ships", "here", "done", "promises"] (SpInitS K CS CN) := by
  refine Fun.okN F sc51_0 (fun vs H Q E h => ?_) fun cdv A0 outer s H vs Q E hr h => ⟨_, pssW, ?_⟩
  · obtain ⟨y, B, a, dx, args, _, _, _, rfl, ha, _⟩ := h
    show args.length + 1 = 6
    rw [ha.2.length]
    rfl
  · obtain ⟨y, B, a, dx, args, sB, hBa, hHa, rfl, ⟨⟨wd, stt, hl⟩, hv⟩, hok, hno⟩ := h
    obtain ⟨hd, ships, here, done, pr⟩ := y
    change Wd hd ships at wd
    change Stt hd ships here at stt
    change pr.length = ships.length at hl
    obtain ⟨v1, v2, v3, v4, v5, rfl, r1, r2, r3, r4, r5⟩ := inv5 hv
    have c0 : Cell B (dropA H a) a CS dx [] B H := ⟨Gr.takeOut sB hBa, hBa, hHa⟩
    have hda : (dropA H a) a = none := dropA_at _ _
    have no : ∀ f ∈ (["harbour", "ships", "here", "done", "promises", "way"] : List Str), NoAttr K CS f := C.no
    refine ws_cons (ws_if (t := !hasWay hd ships here pr) (xt_not (xt_v (x_call (y := (hd, ships, here, pr)) (dn47 T) (hr.mono (by decide)) rfl (XA.imp (P := DDs K [eHarb hd, eShips ships, eSta here, eProm pr]) (xd_cons (x_var 1 rfl r1) (xd_cons (x_var 2 rfl r2) (xd_cons (x_var 3 rfl r3) (xd_cons (x_var 5 rfl r5) xd_nil)))) fun C' vs _ q => ⟨⟨wd, stt, hl⟩, q⟩)))) sB (fun hc B1 H1 g1 => ?_) fun hc B1 H1 g1 => ?_)
    · have hf : hasWay hd ships here pr = false := by simpa using hc
      refine ws_one (NW _ (fun cls d _ H => E cls d H) _ _ _ _ _ _ rfl rfl rfl rfl (L2N.takes_of rfl rfl rfl rfl) rfl (hr.mono (by decide)) fun d H' s' => ?_)
      exact hno hf d H' ((c0.step g1).gr.hh.trans s')
    · have ht : hasWay hd ships here pr = true := by simpa using hc
      have c1 := c0.step g1
      have s1 := g1.bb
      refine ws_nil (ws_cons (ws_cellPut (P := Is v1) c1 hda (XE.at (x_is (v := v1) (i := 1) rfl) c1.bh) (fun C' _ => x_is (i := 0) rfl) C.cls (no "harbour" (by decide)) (by decide) fun u1 B2 H2 s2 e1 c2 => ?_))
      obtain rfl : u1 = v1 := e1
      refine ws_cons (ws_cellPut (P := Is v2) c2 hda (XE.at (x_is (v := v2) (i := 2) rfl) c2.bh) (fun C' _ => x_is (i := 0) rfl) C.cls (no "ships" (by decide)) (Nat.le_of_ble_eq_true rfl) fun u2 B3 H3 s3 e2 c3 => ?_)
      obtain rfl : u2 = v2 := e2
      refine ws_cons (ws_cellPut (P := Is v3) c3 hda (XE.at (x_is (v := v3) (i := 3) rfl) c3.bh) (fun C' _ => x_is (i := 0) rfl) C.cls (no "here" (by decide)) (Nat.le_of_ble_eq_true rfl) fun u3 B4 H4 s4 e3 c4 => ?_)
      obtain rfl : u3 = v3 := e3
      refine ws_cons (ws_cellPut (P := Is v4) c4 hda (XE.at (x_is (v := v4) (i := 4) rfl) c4.bh) (fun C' _ => x_is (i := 0) rfl) C.cls (no "done" (by decide)) (Nat.le_of_ble_eq_true rfl) fun u4 B5 H5 s5 e4 c5 => ?_)
      obtain rfl : u4 = v4 := e4
      refine ws_cons (ws_cellPut (P := Is v5) c5 hda (XE.at (x_is (v := v5) (i := 5) rfl) c5.bh) (fun C' _ => x_is (i := 0) rfl) C.cls (no "promises" (by decide)) (Nat.le_of_ble_eq_true rfl) fun u5 B6 H6 s6 e5 c6 => ?_)
      obtain rfl : u5 = v5 := e5
      have sA := ((((s1.trans s2).trans s3).trans s4).trans s5).trans s6
      refine ws_one (ws_cellPut (P := DD K (eTrips (wayOn hd ships here pr))) c6 hda (XE.at (x_call (y := (hd, ships, here, pr)) (dn50 T) hr rfl (XA.imp (P := DDs K [eHarb hd, eShips ships, eSta here, eProm pr]) (xd_cons (x_var 1 rfl (Dq.up sA _ _ r1)) (xd_cons (x_var 2 rfl (Dq.up sA _ _ r2)) (xd_cons (x_var 3 rfl (Dq.up sA _ _ r3)) (xd_cons (x_var 5 rfl (Dq.up sA _ _ r5)) xd_nil)))) fun C' vs _ q => ⟨⟨wd, stt, hl, ht⟩, q⟩)) c6.bh) (fun C' _ => x_is (i := 0) rfl) C.cls (no "way" (by decide)) (Nat.le_of_ble_eq_true rfl) fun u6 B7 H7 s7 e6 c7 => ?_)
      have sZ := sA.trans s7
      exact hok ht B7 H7 u1 u2 u3 u4 u5 u6 c7.gr c7.lo c7.at' (Dq.up sZ _ _ r1) (Dq.up sZ _ _ r2) (Dq.up sZ _ _ r3) (Dq.up sZ _ _ r4) (Dq.up sZ _ _ r5) e6
end
end TW
/-! WK3: methods; plan_of, cost_now. -/
namespace TW
open PySem PySem.Spec PyProof.Rows L2
section
variable {P : Program} {w : World} {K : PySem.W.Frag} {mg : Str → Option Value} {base : Heap} {CS CN : Addr}
theorem fn_ofM {x qual : Str} {st : Stmt} {f : Addr} {fd : FuncData} {N ps : List Str} {k : Nat} {α : Type} {A : α → Hp → List V → Prop} {R : α → Hp → V → Prop} (F : Fun K x qual st f fd) (S : FnScope N ps (defScope st)) (len : ∀ y B vs, A y B vs → vs.length = ps.length)
    (body : ∀ (f : Addr) (cdv : Value) (A0 : Around) (outer : List Env) (s : Shared) (H : Hp) (vs : List V) (E : XK) (y : α) (B : Hp) (Q : VK), Room k (A0.deeper (envOfC qual (defScope st) s.heap.objs.size f cdv)) → Same B H → A y B vs → (∀ v B' H', Gr B H B' H' → R y B' v → Q v H') →
      WSs (cxOf CX0 P w K mg base N qual (defScope st) f cdv A0 outer s H E).nox (defBody st) { nx := fun _ H' => Q .non H', rt := Q } (start N vs) H) : FnOk P w K mg base CX0 (k + 1) f fd ps (SpP A R) := by
  refine F.ok S (fun vs H Q E h => ?_) (fun cdv A0 outer s H vs Q E hr h => ?_)
  · obtain ⟨y, B, _, ha, _⟩ := h
    exact len y B vs ha
  · obtain ⟨y, B, sb, ha, q⟩ := h
    exact ⟨_, pssW, body f cdv A0 outer s H vs E y B Q hr sb ha q⟩
/-- a method's promise -/
structure MtOk (P : Program) (w : World) (K : PySem.W.Frag) (mg : Str → Option Value) (base : Heap) (CX : CXT) (k : Nat) (C : Addr) (m : Str) (ps : List Str) (sp : Sp) : Prop where
  ex : ∃ f fd, FnOk P w K mg base CX k f fd ps sp ∧ Meth K C m f ∧ Binds K fd ps []
end
section
variable {X : Cx} {o e : Expr} {es : List Expr} {σ : L2.St} {B H : Hp} {P1 P : Hp → V → Prop} {apos pos : Pos} {k : Nat} {C CS : Addr} {m : Str} {α : Type} {A : α → Hp → List V → Prop} {R : α → Hp → V → Prop} {pl : Sem Bool}
theorem x_meth0 (y : α) (G : MtOk X.prog X.w X.K X.mg X.base CX0 k C m ["self"] (SpP A R)) (cl : Cls X.K C) (hr : Room k X.A) (ho : XE X o σ B P1) (hi : ∀ C' v, Same B C' → P1 C' v → (∃ a dx fs, v = .ref a ∧ C' a = some (.ins C dx fs) ∧ fs.lookup m = none) ∧ A y C' [v])
    (ht : eval (.Call (.Attribute o m apos) [] [] pos) X.env = (do
      let ov ← eval o X.env
      standAt apos.atName
      let (f, first) ← holding [ov] (getMethod ov m pl)
      callWith pos f first (backTo pos (starEach [] X.env)) (backToKw pos (keywordEach [] X.env))) := by rfl) : XE X (.Call (.Attribute o m apos) [] [] pos) σ B (R y) := fun H s Q k' => by
  obtain ⟨f, fd, F, hm, hb⟩ := G.ex
  refine we_of (pe_meth0 (E := E0) (pl := pl) peW cl hm F hr hb .nil pass0 ht) (ho H s _ fun v B1 H1 g1 p1 => ?_)
  obtain ⟨⟨a, dx, fs, rfl, h1, h2⟩, hA⟩ := hi B1 v g1.bb p1
  exact ⟨a, dx, fs, rfl, g1.bh _ _ h1, h2, y, B1, g1.bh, hA, fun v B2 H2 g2 p2 => k' v B2 H2 (g1.trans g2) p2⟩
/-- a field of a state -/
theorem x_st {y : StD} {f : Str} {d : PyData} (T : TxtS X.K X.mg CS) (hm : f ∈ (["harbour", "ships", "here", "done", "promises", "way"] : List Str)) (ho : XE X o σ B (IsSt X.K CS y))
    (h : ∀ C' v1 v2 v3 v4 v5 v6, Dq X.K C' v1 (eHarb y.h) → Dq X.K C' v2 (eShips y.ships) → Dq X.K C' v3 (eSta y.here) → Dq X.K C' v4 (eTrips y.done) → Dq X.K C' v5 (eProm y.pr) → Dq X.K C' v6 (eTrips y.way) → ∃ u, (stF v1 v2 v3 v4 v5 v6).lookup f = some u ∧ Dq X.K C' u d)
    (hb : attributeBase o f X.env (eval o X.env) = eval o X.env := by rfl) : XE X (.Attribute o f pos) σ B (DD X.K d) := by
  refine x_fld (P1 := IsSt X.K CS y) ho T.cls (T.no f hm) (fun C' v _ p => ?_) hb
  obtain ⟨a, dx, v1, v2, v3, v4, v5, v6, e, h0, h1, h2, h3, h4, h5, h6⟩ := p
  obtain ⟨u, q1, q2⟩ := h C' v1 v2 v3 v4 v5 v6 h1 h2 h3 h4 h5 h6
  exact ⟨a, dx, _, u, e, h0, q1, q2⟩
section
variable {y : StD} (T : TxtS X.K X.mg CS) (ho : XE X o σ B (IsSt X.K CS y))
include T ho
theorem x_stH (hb : attributeBase o "harbour" X.env (eval o X.env) = eval o X.env := by rfl) : XE X (.Attribute o "harbour" pos) σ B (DD X.K (eHarb y.h)) := x_st T (by decide) ho (fun C' v1 v2 v3 v4 v5 v6 h1 h2 h3 h4 h5 h6 => ⟨v1, rfl, h1⟩) hb
theorem x_stS (hb : attributeBase o "ships" X.env (eval o X.env) = eval o X.env := by rfl) : XE X (.Attribute o "ships" pos) σ B (DD X.K (eShips y.ships)) := x_st T (by decide) ho (fun C' v1 v2 v3 v4 v5 v6 h1 h2 h3 h4 h5 h6 => ⟨v2, rfl, h2⟩) hb
theorem x_stE (hb : attributeBase o "here" X.env (eval o X.env) = eval o X.env := by rfl) : XE X (.Attribute o "here" pos) σ B (DD X.K (eSta y.here)) := x_st T (by decide) ho (fun C' v1 v2 v3 v4 v5 v6 h1 h2 h3 h4 h5 h6 => ⟨v3, rfl, h3⟩) hb
theorem x_stD (hb : attributeBase o "done" X.env (eval o X.env) = eval o X.env := by rfl) : XE X (.Attribute o "done" pos) σ B (DD X.K (eTrips y.done)) := x_st T (by decide) ho (fun C' v1 v2 v3 v4 v5 v6 h1 h2 h3 h4 h5 h6 => ⟨v4, rfl, h4⟩) hb
theorem x_stP (hb : attributeBase o "promises" X.env (eval o X.env) = eval o X.env := by rfl) : XE X (.Attribute o "promises" pos) σ B (DD X.K (eProm y.pr)) := x_st T (by decide) ho (fun C' v1 v2 v3 v4 v5 v6 h1 h2 h3 h4 h5 h6 => ⟨v5, rfl, h5⟩) hb
theorem x_stW (hb : attributeBase o "way" X.env (eval o X.env) = eval o X.env := by rfl) : XE X (.Attribute o "way" pos) σ B (DD X.K (eTrips y.way)) := x_st T (by decide) ho (fun C' v1 v2 v3 v4 v5 v6 h1 h2 h3 h4 h5 h6 => ⟨v6, rfl, h6⟩) hb
end
end
/-- what plan_of asks of a state -/
structure PlanOk (y : StD) : Prop where
  n : y.ships.length ≤ 2
  l : y.done.length + y.way.length ≤ 1000
  two : ∀ i, i < y.ships.length → (rowsFor (y.done ++ y.way) i).length = 2
  sm : ∀ s ∈ y.ships, Sm s.sea ∧ Sm s.lie
section
variable {P : Program} {w : World} {K : PySem.W.Frag} {mg : Str → Option Value} {base : Heap} {CS CN : Addr}
def AOne (K : PySem.W.Frag) (CS : Addr) (y : StD) (B : Hp) (vs : List V) : Prop := PlanOk y ∧ ∃ v, vs = [v] ∧ IsSt K CS y B v
theorem mt_plan (T : Txt K mg) (C : TxtS K mg CS) : MtOk P w K mg base CX0 1 CS "plan_of" ["self"] (SpP (AOne K CS) fun y => DD K (eTrips (planOf y.ships (y.done ++ y.way)))) := by
  obtain ⟨f, fd, hm, F⟩ := C.m1
  refine ⟨f, fd, fn_ofM F sc51_1 (fun y B vs h => by obtain ⟨_, v, rfl, _⟩ := h; rfl) fun f cdv A0 outer s H vs E y B Q hr sb ha q => ?_, hm, F.binds fun _ _ _ _ _ _ us hl => match us, hl with | [_], _ => rfl⟩
  obtain ⟨po, v1, rfl, r1⟩ := ha
  have pn := po.n
  have plen := po.l
  refine ws_cons (ws_newL 1 xd_nil sb (fun F vs B2 H2 g2 p2 hF => ?_) (hN := sc51_1.nd))
  obtain rfl := inv0 p2
  have r2 := Mono.up (P := IsSt K CS y) g2.bb r1
  have A0' : Acc K B2 H2 F [] B2 (upd H2 F (.lst [])) := Acc.new g2.bh hF .nil
  refine ws_cons (ws_forB (l := List.range y.ships.length) (enc := fun (i : Nat) => PyData.int (i : Int)) rfl (xi_rangeN (n := (y.ships.length : Int)) rfl T.b_range ?_ rfl (by omega)) A0'.bh fun B3 H3 g3 => ?_)
  · have el : ((y.ships.map eShip).length : Int) = (y.ships.length : Int) := by rw [List.length_map]
    rw [← el]
    exact x_lenL rfl T.b_len (x_stS C (x_var (P := IsSt K CS y) 0 rfl r2))
  · refine ⟨fun i σ' B' H' => (∃ x2 x3 x4 x5 x6 x7, σ' = [some v1, some (.ref F), x2, x3, x4, x5, x6, x7]) ∧ Acc K B2 H2 F (((planOf y.ships (y.done ++ y.way)).take i).map eTrip) B' H' ∧ Same B3 B',
      ⟨⟨_, _, _, _, _, _, rfl⟩, A0'.step g3, .refl _⟩, fun i σ' B' H' h => ⟨h.2.2, h.2.1.bh⟩, ?_, ?_⟩
    · rintro i n v σ' B' H' B4 H4 ea ⟨⟨x2, x3, x4, x5, x6, x7, rfl⟩, ac, sB⟩ g4 dv
      obtain ⟨hin, rfl⟩ : i < y.ships.length ∧ i = n := by
        obtain ⟨h2, h3⟩ := List.getElem?_eq_some_iff.mp ea
        rw [List.length_range] at h2
        rw [List.getElem_range] at h3
        exact ⟨h2, h3⟩
      have two := po.two i hin
      obtain ⟨⟨h0, b0⟩, ⟨h1, b1⟩, er⟩ : ∃ p q : Int × Int, rowsFor (y.done ++ y.way) i = [p, q] := by
        cases hr : rowsFor (y.done ++ y.way) i with
        | nil => rw [hr] at two; cases two
        | cons p t =>
          cases t with
          | nil => rw [hr] at two; cases two
          | cons q t =>
            cases t with
            | nil => exact ⟨p, q, rfl⟩
            | cons _ _ => rw [hr] at two; simp at two
      have ep : (planOf y.ships (y.done ++ y.way))[i]? = some (h0, b0, h1) := by
        unfold planOf
        rw [List.getElem?_map, List.getElem?_range hin]
        simp only [Option.map_some, er]
        rfl
      have ac4 := ac.step g4
      have r4 := Mono.up (P := IsSt K CS y) ac4.gr.bb r2
      have dlen : (y.done ++ y.way).length ≤ 1000 := by rw [List.length_append]; exact plen
      refine ⟨_, xg_name 2 sc51_1.nd, ?_⟩
      refine ws_cons (ws_asg (P := DD K (.list [ePair (h0, b0), ePair (h1, b1)])) ?_ g4.bh fun lv B5 H5 g5 p5 => ?_)
      · show XE _ _ _ _ (DD K (.list ([(h0, b0), (h1, b1)].map ePair)))
        rw [← er]
        refine x_lc (l := y.done ++ y.way) (enc := eTrip) (enc' := ePair) (own := o51_1_0) ?_ (fun p => if p.2.1 = (i : Int) then some (p.1, p.2.2) else none) ?_ (by rw [line_big]; omega) rfl sc51_1.nd bk51_1_0
        · rw [List.map_append]
          exact xi_list (x_cat (x_stD C (x_var (P := IsSt K CS y) 0 rfl r4)) (x_stW C (x_var (P := IsSt K CS y) 0 rfl r4)) (by rw [List.length_map, List.length_map, line_big]; omega))
        · intro j a v' B' ej sb' hd
          obtain ⟨l, u1, u2, u3, rfl, hq, q1, q2, q3⟩ := tup3 hd
          apply lc_turn
          · rintro XB ⟨_, _, _, _, _, rfl⟩
            refine ⟨xg_tup rfl hq (xgs_cons (xg_name 5 sc51_1.nd) (xgs_cons (xg_name 6 sc51_1.nd) (xgs_cons (xg_name 7 sc51_1.nd) xgs_nil))), xts_one (XT.is (xt_cmp (c_eqI (un64 hr)) (x_var 6 rfl q2) (x_var 2 rfl (Dq.up sb' _ _ dv))) ?_), fun r hr' => ?_⟩
            · rw [isSome_if]
            · obtain ⟨_, rfl⟩ : _ ∧ (a.1, a.2.2) = r := by simpa using hr'
              exact x_tup (xd_cons (x_var 5 rfl q1) (xd_cons (x_var 7 rfl q3) xd_nil))
          · rfl
      · obtain ⟨l, xs, rfl, hl, rr⟩ := Dq.lst_v p5
        obtain ⟨u1, u2, rfl, q1, q2⟩ := inv2 rr
        refine ⟨_, xg_lst rfl hl (xgs_cons (xg_name 3 sc51_1.nd) (xgs_cons (xg_name 4 sc51_1.nd) xgs_nil)), ?_⟩
        have ac5 := ac4.step g5
        refine ws_one (ws_accApp (d := eTrip (h0, b0, h1)) ac5 hF (fun C _ => x_var 1 rfl rfl) (x_tup (xd_cons (x_ixT (x_var 3 rfl q1) x_int rfl) (xd_cons (x_ixT (x_var 3 rfl q1) x_int rfl) (xd_cons (x_ixT (x_var 4 rfl q2) x_int rfl) xd_nil)))) ?_ fun B7 H7 s7 a7 => ⟨B7, ⟨_, _, _, _, _, _, rfl⟩, ?_, ((sB.trans g4.bb).trans g5.bb).trans s7⟩)
        · rw [List.length_map, List.length_take, line_big]
          omega
        · rw [List.take_add_one, ep, List.map_append]
          exact a7
    · rintro σ' B' H' ⟨⟨x2, x3, x4, x5, x6, x7, rfl⟩, ac, sB⟩
      obtain ⟨B4, g4, p4, _⟩ := ac.done hF
      refine ws_one (ws_ret (P := DD K _) (x_var 1 rfl p4) g4.bh fun v' B5 H5 g5 p5 => q v' B5 H5 ((g2.trans g4).trans g5) ?_)
      rw [List.take_of_length_le (by unfold planOf; rw [List.length_map]; exact Nat.le_refl _)] at p5
      exact p5
theorem st_cell {CS : Addr} {y : StD} {B : Hp} {v : V} (h : IsSt K CS y B v) (m : Str) (hm : ∀ v1 v2 v3 v4 v5 v6, (stF v1 v2 v3 v4 v5 v6).lookup m = none) : ∃ a dx fs, v = .ref a ∧ B a = some (.ins CS dx fs) ∧ fs.lookup m = none := by
  obtain ⟨a, dx, v1, v2, v3, v4, v5, v6, e, h0, _⟩ := h
  exact ⟨a, dx, _, e, h0, hm _ _ _ _ _ _⟩
theorem mt_cost (T : Txt K mg) (C : TxtS K mg CS) : MtOk P w K mg base CX0 3 CS "cost_now" ["self"] (SpP (AOne K CS) fun y => DD K (.int (costOf y.ships (planOf y.ships (y.done ++ y.way))))) := by
  obtain ⟨f, fd, hm, F⟩ := C.m2
  refine ⟨f, fd, fn_ofM F sc51_2 (fun y B vs h => by obtain ⟨_, v, rfl, _⟩ := h; rfl) fun f cdv A0 outer s H vs E y B Q hr sb ha q => ?_, hm, F.binds fun _ _ _ _ _ _ us hl => match us, hl with | [_], _ => rfl⟩
  obtain ⟨po, v1, rfl, r1⟩ := ha
  refine ws_one (ws_ret (P := DD K (.int (costOf y.ships (planOf y.ships (y.done ++ y.way))))) (x_call (y := (y.ships, planOf y.ships (y.done ++ y.way))) (dn19 T) hr rfl (XA.imp (P := DDs K [eShips y.ships, eTrips (planOf y.ships (y.done ++ y.way))]) (xd_cons (x_stS C (x_var (P := IsSt K CS y) 0 rfl r1)) (xd_cons ?_ xd_nil)) fun C' vs _ a => ⟨⟨by have := po.n; show y.ships.length < 100; omega, po.sm⟩, a⟩)) sb q)
  exact x_meth0 (P1 := IsSt K CS y) y (mt_plan T C) C.cls (hr.mono (by decide)) (x_var 0 rfl r1) (fun C' v _ p => ⟨st_cell p "plan_of" (fun _ _ _ _ _ _ => rfl), po, v, rfl, p⟩)
end
end TW
/-! WK4: State(..), what a console is, starred targets. -/
namespace TW
open PySem PySem.Spec PyProof.Rows L2
/-- State.__init__'s promise, packed -/
structure StMk (P : Program) (w : World) (K : PySem.W.Frag) (mg : Str → Option Value) (base : Heap) (CS CN : Addr) : Prop where
  ex : ∃ f fd, FnOk P w K mg base (L2N.CX P w) 8 f fd ["self", "harbour", "ships", "here", "done", "promises"] (SpInitS K CS CN) ∧ Mk K CS f ∧ Binds K fd ["self", "harbour", "ships", "here", "done", "promises"] []
  mg_ : mg "State" = some (.ref CS)
theorem stMk {P : Program} {w : World} {K : PySem.W.Frag} {mg : Str → Option Value} {base : Heap} {CS CN : Addr} (T : Txt K mg) (C : TxtS K mg CS) (NW : RaiseNW P K mg CN) : StMk P w K mg base CS CN := by
  obtain ⟨f, fd, M, F⟩ := C.ini
  exact ⟨⟨f, fd, fn_stInit T C NW F, M, F.binds fun _ _ _ _ _ _ us hl => match us, hl with | [_, _, _, _, _, _], _ => rfl⟩, C.mg_⟩
theorem passF {P : Program} {w : World} {X : Cx} : Passes (L2N.CX P w) X (fun _ _ _ => False) := fun _ _ _ _ _ _ _ h => by
  obtain ⟨_, _, _, _, _, _, _, _, _, _, _, _, z⟩ := h
  exact z.elim
section
variable {X : Cx} {e : Expr} {es : List Expr} {σ : L2.St} {B H : Hp} {pp pos : Pos} {CS CN : Addr} {y : Harb × List Ship × Sta × List Trip × Lat}
theorem we_mkSt {E : XK} {Q : VK} (hx : Passes (L2N.CX X.prog X.w) X E) (G : StMk X.prog X.w X.K X.mg X.base CS CN) (hr : Room 9 X.A) (hg : Gl X "State") (ha : XA X (e :: es) σ B (ASt X.K y)) (s : Same B H)
    (kok : hasWay y.1 y.2.1 y.2.2.1 y.2.2.2.2 = true → ∀ v B' H', Gr B H B' H' → IsSt X.K CS (mkSt y) B' v → Q v H') (kno : hasWay y.1 y.2.1 y.2.2.1 y.2.2.2.2 = false → ∀ d H', Same H H' → E (.ref CN) d H')
    (he : starEach (e :: es) X.env = (false, eval e X.env) :: starEach es X.env := by rfl) (hpl : (backTo pos (starEach es X.env)).any (·.1) = false := by rfl) : WE X (.Call (.Name "State" pp) (e :: es) [] pos) σ H Q := by
  obtain ⟨⟨f, fd, F, M, hb⟩, hm⟩ := G
  refine we_of (pe_make (E := E) M F hr hg hm hb .nil hx paW (by decide) he hpl) ?_
  refine ha H s _ fun vs B1 H1 g1 p1 x dx hxn hdn hne => ?_
  have e1 : ∀ a o, H1 a = some o → dropA (upd (upd H1 dx (.own x)) x (.ins CS dx [])) x a = some o := fun a o q => by
    have nx : a ≠ x := by rintro rfl; rw [hxn] at q; cases q
    have nd : a ≠ dx := by rintro rfl; rw [hdn] at q; cases q
    rw [dropA_ne nx, upd_ne nx, upd_ne nd]
    exact q
  have sB : Same B1 (upd (upd H1 dx (.own x)) x (.ins CS dx [])) := fun a o q => dropA_sub a o (e1 a o (g1.bh a o q))
  have hB1 : B1 x = none := g1.bh.free hxn
  refine ⟨y, B1, x, dx, vs, sB, hB1, upd_same, by rw [List.append_nil], p1, fun ht B' H' v1 v2 v3 v4 v5 v6 g2 lo h2 d1 d2 d3 d4 d5 d6 => ⟨rfl, ?_⟩, fun hf d H' s' => ?_⟩
  · have g3 : Gr B1 H1 B' H' := by
      refine ⟨fun a o q => g2.hh a o (e1 a o q), g2.bb, g2.bh, fun a q => ?_⟩
      rcases g2.fr a q with z | z
      · exact .inl z
      · right
        cases q2 : H1 a with
        | none => rfl
        | some o =>
          rw [e1 a o q2] at z
          cases z
    have g4 := (g1.trans g3).freeze (g1.hh.free hxn) h2
    have sN : Same B' (upd B' x (.ins CS dx (stF v1 v2 v3 v4 v5 v6))) := same_new lo
    exact kok ht _ _ H' g4 ⟨x, dx, v1, v2, v3, v4, v5, v6, rfl, upd_same, Dq.up sN _ _ d1, Dq.up sN _ _ d2, Dq.up sN _ _ d3, Dq.up sN _ _ d4, Dq.up sN _ _ d5, Dq.up sN _ _ d6⟩
  · exact kno hf d H' fun a o q => s' a o (e1 a o (g1.hh a o q))
/-- State(..) that does not raise -/
theorem x_mkSt (G : StMk X.prog X.w X.K X.mg X.base CS CN) (hr : Room 9 X.A) (hg : Gl X "State") (ha : XA X (e :: es) σ B (ASt X.K y)) (ht : hasWay y.1 y.2.1 y.2.2.1 y.2.2.2.2 = true)
    (he : starEach (e :: es) X.env = (false, eval e X.env) :: starEach es X.env := by rfl) (hpl : (backTo pos (starEach es X.env)).any (·.1) = false := by rfl) : XE X (.Call (.Name "State" pp) (e :: es) [] pos) σ B (IsSt X.K CS (mkSt y)) := fun H s Q k =>
  we_mkSt (CN := CN) passF G hr hg ha s (fun _ v B' H' g p => k v B' H' g p) (fun hf => by rw [ht] at hf; cases hf) he hpl
end
/-! ### consoles -/
def cF (sv : V) (n : Nat) (ev : V) : List (Str × V) := [("_states", sv), ("_at", .int (n : Int)), ("_entries", ev)]
/-- what its fields hold: the state in force is the last -/
def ConK (K : PySem.W.Frag) (CS : Addr) (y : StD) (n : Nat) (sv ev : V) (B : Hp) : Prop := ∃ xs es u, IsLs xs B sv ∧ xs.length = n + 1 ∧ xs[n]? = some u ∧ IsSt K CS y B u ∧ IsLs es B ev ∧ es.length ≤ n ∧ n ≤ 100
theorem ConK.up {K : PySem.W.Frag} {CS : Addr} {y : StD} {n : Nat} {sv ev : V} {B C : Hp} (s : Same B C) (h : ConK K CS y n sv ev B) : ConK K CS y n sv ev C := by
  obtain ⟨xs, es, u, h1, h2, h3, h4, h5, h6, h7⟩ := h
  exact ⟨xs, es, u, Mono.up s h1, h2, h3, Mono.up s h4, Mono.up s h5, h6, h7⟩
def IsCon (K : PySem.W.Frag) (CS CC : Addr) (y : StD) : Hp → V → Prop := fun B v => ∃ c dx sv ev n, v = .ref c ∧ B c = some (.ins CC dx (cF sv n ev)) ∧ ConK K CS y n sv ev B
instance {K : PySem.W.Frag} {CS CC : Addr} {y : StD} : Mono (IsCon K CS CC y) := ⟨fun s h => by
  obtain ⟨c, dx, sv, ev, n, e, h1, h2⟩ := h
  exact ⟨c, dx, sv, ev, n, e, s _ _ h1, h2.up s⟩⟩
theorem IsSt.drop {K : PySem.W.Frag} {CS CC : Addr} {y : StD} {B : Hp} {c dx : Addr} {fs : List (Str × V)} {v : V} (ne : CS ≠ CC) (h : B c = some (.ins CC dx fs)) (p : IsSt K CS y B v) : IsSt K CS y (dropA B c) v := by
  obtain ⟨a, dx', v1, v2, v3, v4, v5, v6, e, h0, h1, h2, h3, h4, h5, h6⟩ := p
  have n := noSeq_ins h
  refine ⟨a, dx', v1, v2, v3, v4, v5, v6, e, ?_, Dq.drop n _ _ h1, Dq.drop n _ _ h2, Dq.drop n _ _ h3, Dq.drop n _ _ h4, Dq.drop n _ _ h5, Dq.drop n _ _ h6⟩
  rw [dropA_ne]
  · exact h0
  · rintro rfl
    rw [h] at h0
    cases h0
    exact ne rfl
structure TxtCon (K : PySem.W.Frag) (mg : Str → Option Value) (CC : Addr) : Prop where
  mg_ : mg "Console" = some (.ref CC)
  cls : Cls K CC
  ini : ∃ f fd, Mk K CC f ∧ Fun K "__init__" "Console.__init__" (meth 52 0) f fd
  no : ∀ f ∈ (["_states", "_at", "_entries"] : List Str), NoAttr K CC f
  m_state : ∃ f fd, Meth K CC "_state" f ∧ Fun K "_state" "Console._state" (meth 52 1) f fd
  m_enter : ∃ f fd, Meth K CC "_enter" f ∧ Fun K "_enter" "Console._enter" (meth 52 2) f fd
  m_check : ∃ f fd, Meth K CC "_check_name" f ∧ Fun K "_check_name" "Console._check_name" (meth 52 3) f fd
  m_go : ∃ f fd, Meth K CC "go" f ∧ Fun K "go" "Console.go" (meth 52 4) f fd
  m_promise : ∃ f fd, Meth K CC "promise" f ∧ Fun K "promise" "Console.promise" (meth 52 6) f fd
  m_harbour : ∃ f fd, Meth K CC "harbour" f ∧ Fun K "harbour" "Console.harbour" (meth 52 14) f fd
  m_ships : ∃ f fd, Meth K CC "ships" f ∧ Fun K "ships" "Console.ships" (meth 52 15) f fd
  m_promises : ∃ f fd, Meth K CC "promises" f ∧ Fun K "promises" "Console.promises" (meth 52 16) f fd
  m_plan : ∃ f fd, Meth K CC "plan" f ∧ Fun K "plan" "Console.plan" (meth 52 17) f fd
  m_st : ∃ f fd, Meth K CC "state" f ∧ Fun K "state" "Console.state" (meth 52 18) f fd
  m_cost : ∃ f fd, Meth K CC "cost" f ∧ Fun K "cost" "Console.cost" (meth 52 19) f fd
  p_now : ∃ p f fd, PropOf K CC "now" p f ∧ Fun K "now" "Console.now" (meth 52 21) f fd
  m_len : ∃ f fd, Meth K CC "__len__" f ∧ Fun K "__len__" "Console.__len__" (meth 52 24) f fd
section
variable {P : Program} {w : World} {K : PySem.W.Frag} {mg : Str → Option Value} {base : Heap} {CS CC : Addr}
theorem con_cell {y : StD} {B : Hp} {v : V} (h : IsCon K CS CC y B v) (m : Str) (hm : ∀ sv n ev, (cF sv n ev).lookup m = none) : ∃ a dx fs, v = .ref a ∧ B a = some (.ins CC dx fs) ∧ fs.lookup m = none := by
  obtain ⟨c, dx, sv, ev, n, e, h1, _⟩ := h
  exact ⟨c, dx, _, e, h1, hm _ _ _⟩
def ACon (K : PySem.W.Frag) (CS CC : Addr) (y : StD) (B : Hp) (vs : List V) : Prop := ∃ v, vs = [v] ∧ IsCon K CS CC y B v
theorem mt_state (C : TxtCon K mg CC) : MtOk P w K mg base CX0 1 CC "_state" ["self"] (SpP (ACon K CS CC) fun y => IsSt K CS y) := by
  obtain ⟨f, fd, hm, F⟩ := C.m_state
  refine ⟨f, fd, fn_ofM F sc52_1 (fun y B vs h => by obtain ⟨v, rfl, _⟩ := h; rfl) fun f cdv A0 outer s H vs E y B Q hr sb ha q => ?_, hm, F.binds fun _ _ _ _ _ _ us hl => match us, hl with | [_], _ => rfl⟩
  obtain ⟨v1, rfl, c, dx, sv, ev, n, rfl, h1, xs, es, u, h2, h3, h4, h5, h6, h7, h8⟩ := ha
  refine ws_one (ws_ret (P := IsSt K CS y) (XE.imp (P1 := Is u) (x_ixV (xs := xs) (i := (n : Int)) (x_fld (P1 := Is (.ref c)) (x_is (i := 0) rfl) C.cls (C.no _ (by decide)) fun C' v s p => ⟨c, dx, _, sv, p, s _ _ h1, rfl, Mono.up s h2⟩) (x_fld (P1 := Is (.ref c)) (x_is (i := 0) rfl) C.cls (C.no _ (by decide)) fun C' v s p => ⟨c, dx, _, .int (n : Int), p, s _ _ h1, rfl, .int _⟩) ?_) fun C' v s p => ?_) sb q)
  · refine atI_nn (by omega) ?_
    rw [Int.toNat_natCast]
    exact h4
  · obtain rfl : v = u := p
    exact Mono.up (P := IsSt K CS y) s h5
end
section
variable {X : Cx} {o : Expr} {σ : L2.St} {B H : Hp} {P1 : Hp → V → Prop} {apos pos : Pos} {CS CC : Addr} {y : StD} {pl : Sem Bool}
/-- o._state() -/
theorem x_cst (C : TxtCon X.K X.mg CC) (hr : Room 1 X.A) (ho : XE X o σ B (IsCon X.K CS CC y))
    (ht : eval (.Call (.Attribute o "_state" apos) [] [] pos) X.env = (do
      let ov ← eval o X.env
      standAt apos.atName
      let (f, first) ← holding [ov] (getMethod ov "_state" pl)
      callWith pos f first (backTo pos (starEach [] X.env)) (backToKw pos (keywordEach [] X.env))) := by rfl) : XE X (.Call (.Attribute o "_state" apos) [] [] pos) σ B (IsSt X.K CS y) :=
  x_meth0 (P1 := IsCon X.K CS CC y) y (mt_state C) C.cls hr ho (fun C' v _ p => ⟨con_cell p "_state" (fun _ _ _ => rfl), v, rfl, p⟩) ht
end
end TW
/-! WK5: what a console tells. -/
namespace TW
open PySem PySem.Spec PyProof.Rows L2
section
variable {X : Cx} {e : Expr} {σ : L2.St} {B H : Hp} {x y z : Str} {p1 p2 p3 p4 pos pos2 : Pos} {kk i j k : Nat} {d1 d2 : PyData} {ds : List PyData} {D : Ends}
/-- x, y, *z = a tuple -/
theorem ws_star (i j k : Nat) (h : XE X e σ B (DD X.K (.tuple (d1 :: d2 :: ds)))) (s : Same B H) (hz : ds.length ≤ 1000) (hc : X.calm = true) (hN : X.N.Nodup)
    (k' : ∀ v1 v2 F B' H', Gr B H B' H' → Dq X.K B' v1 d1 → Dq X.K B' v2 d2 → Dq X.K B' (.ref F) (.list ds) → D.nx (((σ.set i (some v1)).set j (some v2)).set k (some (.ref F))) H')
    (hi : X.N[i]? = some x := by rfl) (hj : X.N[j]? = some y := by rfl) (hk : X.N[k]? = some z := by rfl) (lx : X.env.scope.names.lookup x = some .local := by rfl) (ly : X.env.scope.names.lookup y = some .local := by rfl) (lz : X.env.scope.names.lookup z = some .local := by rfl)
    (hs : swapsWithSole [.Tuple [.Name x p1, .Name y p2, .Starred (.Name z p3) p4] kk pos] e pos2.line X.env = pure false := by rfl) (hw : swappedStores [.Tuple [.Name x p1, .Name y p2, .Starred (.Name z p3) p4] kk pos] e X.env = pure none := by rfl)
    (h1 : (assignEach [.Tuple [.Name x p1, .Name y p2, .Starred (.Name z p3) p4] kk pos] X.env).map (·.2) = [assign (.Tuple [.Name x p1, .Name y p2, .Starred (.Name z p3) p4] kk pos) X.env] := by rfl) : WS X (.Assign [.Tuple [.Name x p1, .Name y p2, .Starred (.Name z p3) p4] kk pos] e pos2) D σ H := by
  refine ws_of (ps_asg peW pgW hs hw h1) (h H s _ fun v B1 H1 g1 p => ?_)
  obtain ⟨l, vs, rfl, hq, rr⟩ := Dq.tup_v p
  obtain ⟨w1, w2, ws, rfl, q1, q2, rr⟩ : ∃ w1 w2 ws, vs = w1 :: w2 :: ws ∧ Dq X.K B1 w1 d1 ∧ Dq X.K B1 w2 d2 ∧ DqAll X.K B1 ws ds := by
    cases rr with
    | cons q1 rr =>
      cases rr with
      | cons q2 rr => exact ⟨_, _, _, rfl, q1, q2, rr⟩
  intro pins st u I r
  obtain rfl : u = Value.ref l := r
  refine sp_next hc hN I (Same.seqT g1.bh hq) (by rw [rr.length]; exact hz) hi hj hk lx ly lz fun F hF => ?_
  have n := same_new (o := HO.lst ws) (g1.bh.free hF)
  exact k' _ _ F _ _ (g1.trans (.new g1.bh hF)) (Dq.up n _ _ q1) (Dq.up n _ _ q2) (.lst upd_same (DqAll.up n _ _ rr))
end
section
variable {P : Program} {w : World} {K : PySem.W.Frag} {mg : Str → Option Value} {base : Heap} {CS CC : Addr}
theorem mt_harbour (C : TxtCon K mg CC) (S : TxtS K mg CS) : MtOk P w K mg base CX0 2 CC "harbour" ["self"] (SpP (fun y B vs => (y.h.depths.length ≤ 100 ∧ y.h.berths.length ≤ 100) ∧ ACon K CS CC y B vs) fun y => DD K (eHarb y.h)) := by
  obtain ⟨f, fd, hm, F⟩ := C.m_harbour
  refine ⟨f, fd, fn_ofM F sc52_14 (fun y B vs h => by obtain ⟨_, v, rfl, _⟩ := h; rfl) fun f cdv A0 outer s H vs E y B Q hr sb ha q => ?_, hm, F.binds fun _ _ _ _ _ _ us hl => match us, hl with | [_], _ => rfl⟩
  obtain ⟨⟨hd, hb⟩, v1, rfl, r1⟩ := ha
  refine ws_cons (ws_star 1 2 3 (d1 := eInts y.h.depths) (d2 := eInts y.h.berths) (ds := [.int y.h.tugs, .int y.h.pilots, .int y.h.last]) (x_stH S (x_cst C hr (x_var (P := IsCon K CS CC y) 0 rfl r1))) sb (by simp) rfl sc52_14.nd fun v1 v2 F B1 H1 g1 q1 q2 q3 => ?_)
  refine ws_one (ws_ret (P := DD K (eHarb y.h)) (x_tup (ds := [eInts y.h.depths, eInts y.h.berths, .int y.h.tugs, .int y.h.pilots, .int y.h.last]) (xd_cons (d := eInts y.h.depths) ?_ (xd_cons (d := eInts y.h.berths) ?_ (xd_star (ds := [.int y.h.tugs, .int y.h.pilots, .int y.h.last]) (x_var 3 rfl q3) (.inl rfl) xd_nil)))) g1.bh fun v B2 H2 g2 p2 => q v B2 H2 (g1.trans g2) p2)
  · have e : eInts y.h.depths = .list (y.h.depths.map .int ++ []) := by rw [List.append_nil]; rfl
    rw [e]
    exact x_lst (xd_star (x_var 1 rfl q1) (.inl rfl) xd_nil) (by rw [List.append_nil, List.length_map, line_big]; omega)
  · have e : eInts y.h.berths = .list (y.h.berths.map .int ++ []) := by rw [List.append_nil]; rfl
    rw [e]
    exact x_lst (xd_star (x_var 2 rfl q2) (.inl rfl) xd_nil) (by rw [List.append_nil, List.length_map, line_big]; omega)
theorem mt_ships (C : TxtCon K mg CC) (S : TxtS K mg CS) : MtOk P w K mg base CX0 2 CC "ships" ["self"] (SpP (fun y B vs => (y.ships.length ≤ 100) ∧ ACon K CS CC y B vs) fun y => DD K (eShips y.ships)) := by
  obtain ⟨f, fd, hm, F⟩ := C.m_ships
  refine ⟨f, fd, fn_ofM F sc52_15 (fun y B vs h => by obtain ⟨_, v, rfl, _⟩ := h; rfl) fun f cdv A0 outer s H vs E y B Q hr sb ha q => ?_, hm, F.binds fun _ _ _ _ _ _ us hl => match us, hl with | [_], _ => rfl⟩
  obtain ⟨hn, v1, rfl, r1⟩ := ha
  refine ws_one (ws_ret (P := DD K (eShips y.ships)) ?_ sb q)
  have e : eShips y.ships = .list (y.ships.map eShip ++ []) := by rw [List.append_nil]; rfl
  rw [e]
  exact x_lst (xd_star (x_stS S (x_cst C hr (x_var (P := IsCon K CS CC y) 0 rfl r1))) (.inl rfl) xd_nil) (by rw [List.append_nil, List.length_map, line_big]; omega)
theorem mt_promises (C : TxtCon K mg CC) (S : TxtS K mg CS) : MtOk P w K mg base CX0 2 CC "promises" ["self"] (SpP (fun y B vs => (y.pr.length ≤ 100) ∧ ACon K CS CC y B vs) fun y => DD K (eProm y.pr)) := by
  obtain ⟨f, fd, hm, F⟩ := C.m_promises
  refine ⟨f, fd, fn_ofM F sc52_16 (fun y B vs h => by obtain ⟨_, v, rfl, _⟩ := h; rfl) fun f cdv A0 outer s H vs E y B Q hr sb ha q => ?_, hm, F.binds fun _ _ _ _ _ _ us hl => match us, hl with | [_], _ => rfl⟩
  obtain ⟨hn, v1, rfl, r1⟩ := ha
  refine ws_one (ws_ret (P := DD K (eProm y.pr)) ?_ sb q)
  have e : eProm y.pr = .list (y.pr.map eOpt ++ []) := by rw [List.append_nil]; rfl
  rw [e]
  exact x_lst (xd_star (x_stP S (x_cst C hr (x_var (P := IsCon K CS CC y) 0 rfl r1))) (.inl rfl) xd_nil) (by rw [List.append_nil, List.length_map, line_big]; omega)
def APl (K : PySem.W.Frag) (CS CC : Addr) (y : StD) (B : Hp) (vs : List V) : Prop := PlanOk y ∧ ACon K CS CC y B vs
theorem mt_cplan (T : Txt K mg) (C : TxtCon K mg CC) (S : TxtS K mg CS) : MtOk P w K mg base CX0 2 CC "plan" ["self"] (SpP (APl K CS CC) fun y => DD K (eTrips (planOf y.ships (y.done ++ y.way)))) := by
  obtain ⟨f, fd, hm, F⟩ := C.m_plan
  refine ⟨f, fd, fn_ofM F sc52_17 (fun y B vs h => by obtain ⟨_, v, rfl, _⟩ := h; rfl) fun f cdv A0 outer s H vs E y B Q hr sb ha q => ?_, hm, F.binds fun _ _ _ _ _ _ us hl => match us, hl with | [_], _ => rfl⟩
  obtain ⟨po, v1, rfl, r1⟩ := ha
  exact ws_one (ws_ret (P := DD K (eTrips (planOf y.ships (y.done ++ y.way)))) (x_meth0 (P1 := IsSt K CS y) y (mt_plan T S) S.cls hr (x_cst C hr (x_var (P := IsCon K CS CC y) 0 rfl r1)) (fun C' v _ p => ⟨st_cell p "plan_of" (fun _ _ _ _ _ _ => rfl), po, v, rfl, p⟩)) sb q)
theorem mt_cstate (C : TxtCon K mg CC) (S : TxtS K mg CS) : MtOk P w K mg base CX0 2 CC "state" ["self"] (SpP (ACon K CS CC) fun y => DD K (eSta y.here)) := by
  obtain ⟨f, fd, hm, F⟩ := C.m_st
  refine ⟨f, fd, fn_ofM F sc52_18 (fun y B vs h => by obtain ⟨v, rfl, _⟩ := h; rfl) fun f cdv A0 outer s H vs E y B Q hr sb ha q => ?_, hm, F.binds fun _ _ _ _ _ _ us hl => match us, hl with | [_], _ => rfl⟩
  obtain ⟨v1, rfl, r1⟩ := ha
  exact ws_one (ws_ret (P := DD K (eSta y.here)) (x_stE S (x_cst C hr (x_var (P := IsCon K CS CC y) 0 rfl r1))) sb q)
theorem mt_ccost (T : Txt K mg) (C : TxtCon K mg CC) (S : TxtS K mg CS) : MtOk P w K mg base CX0 4 CC "cost" ["self"] (SpP (APl K CS CC) fun y => DD K (.int (costOf y.ships (planOf y.ships (y.done ++ y.way))))) := by
  obtain ⟨f, fd, hm, F⟩ := C.m_cost
  refine ⟨f, fd, fn_ofM F sc52_19 (fun y B vs h => by obtain ⟨_, v, rfl, _⟩ := h; rfl) fun f cdv A0 outer s H vs E y B Q hr sb ha q => ?_, hm, F.binds fun _ _ _ _ _ _ us hl => match us, hl with | [_], _ => rfl⟩
  obtain ⟨po, v1, rfl, r1⟩ := ha
  exact ws_one (ws_ret (P := DD K (.int (costOf y.ships (planOf y.ships (y.done ++ y.way))))) (x_meth0 (P1 := IsSt K CS y) y (mt_cost T S) S.cls hr (x_cst C (hr.mono (by decide)) (x_var (P := IsCon K CS CC y) 0 rfl r1)) (fun C' v _ p => ⟨st_cell p "cost_now" (fun _ _ _ _ _ _ => rfl), po, v, rfl, p⟩)) sb q)
/-- the getter of now -/
structure NowOk (P : Program) (w : World) (K : PySem.W.Frag) (mg : Str → Option Value) (base : Heap) (CS CC : Addr) : Prop where
  ex : ∃ p f fd, PropOf K CC "now" p f ∧ FnOk P w K mg base CX0 2 f fd ["self"] (SpP (ACon K CS CC) fun y => DD K (.int y.here.1)) ∧ Binds K fd ["self"] []
theorem pr_now (C : TxtCon K mg CC) (S : TxtS K mg CS) : NowOk P w K mg base CS CC := by
  obtain ⟨p, f, fd, hm, F⟩ := C.p_now
  refine ⟨p, f, fd, hm, fn_ofM F sc52_21 (fun y B vs h => by obtain ⟨v, rfl, _⟩ := h; rfl) fun f cdv A0 outer s H vs E y B Q hr sb ha q => ?_, F.binds fun _ _ _ _ _ _ us hl => match us, hl with | [_], _ => rfl⟩
  obtain ⟨v1, rfl, r1⟩ := ha
  exact ws_one (ws_ret (P := DD K (.int y.here.1)) (x_ixT (x_stE S (x_cst C hr (x_var (P := IsCon K CS CC y) 0 rfl r1))) x_int rfl) sb q)
theorem mt_len (T : Txt K mg) (C : TxtCon K mg CC) (S : TxtS K mg CS) : MtOk P w K mg base CX0 1 CC "__len__" ["self"] (SpP (ACon K CS CC) fun y => DD K (.int (y.ships.length : Int))) := by
  obtain ⟨f, fd, hm, F⟩ := C.m_len
  refine ⟨f, fd, fn_ofM F sc52_24 (fun y B vs h => by obtain ⟨v, rfl, _⟩ := h; rfl) fun f cdv A0 outer s H vs E y B Q hr sb ha q => ?_, hm, F.binds fun _ _ _ _ _ _ us hl => match us, hl with | [_], _ => rfl⟩
  obtain ⟨v1, rfl, c, dx, sv, ev, n, rfl, h1, xs, es, u, h2, h3, h4, h5, h6, h7, h8⟩ := ha
  have el : ((y.ships.map eShip).length : Int) = (y.ships.length : Int) := by rw [List.length_map]
  refine ws_one (ws_ret (P := DD K (.int (y.ships.length : Int))) ?_ sb q)
  rw [← el]
  refine x_lenL rfl T.b_len (x_stS S (XE.imp (P1 := Is u) (x_ixV (xs := xs) (i := (n : Int)) (x_fld (P1 := Is (.ref c)) (x_is (i := 0) rfl) C.cls (C.no _ (by decide)) fun C' v s p => ⟨c, dx, _, sv, p, s _ _ h1, rfl, Mono.up s h2⟩) (x_fld (P1 := Is (.ref c)) (x_is (i := 0) rfl) C.cls (C.no _ (by decide)) fun C' v s p => ⟨c, dx, _, .int (n : Int), p, s _ _ h1, rfl, .int _⟩) ?_) fun C' v s p => ?_))
  · refine atI_nn (by omega) ?_
    rw [Int.toNat_natCast]
    exact h4
  · obtain rfl : v = u := p
    exact Mono.up (P := IsSt K CS y) s h5
end
end TW
/-! WK6: _enter, _check_name. -/
namespace TW
open PySem PySem.Spec PyProof.Rows L2
theorem cutV_all (xs : List V) {n : Nat} (h : xs.length = n + 1) : cutV xs none (some ((n : Int) + 1)) = xs := by
  have e1 : HT.sIx xs.length 0 none = 0 := by simp [HT.sIx]
  have e2 : HT.sIx xs.length xs.length (some ((n : Int) + 1)) = xs.length := by
    unfold HT.sIx
    simp only []
    rw [h]
    split <;> omega
  unfold cutV
  rw [e1, e2, List.drop_zero, Nat.sub_zero, List.take_of_length_le (Nat.le_refl _)]
theorem isLs_drop {B' : Hp} {F C dx : Addr} {fs : List (Str × V)} {xs : List V} {v : V} (h : B' F = some (.ins C dx fs)) (p : IsLs xs B' v) : IsLs xs (dropA B' F) v := by
  obtain ⟨a, rfl, q⟩ := p
  refine ⟨a, rfl, ?_⟩
  rw [dropA_ne]
  · exact q
  · rintro rfl
    rw [h] at q
    cases q
section
variable {X : Cx} {o value : Expr} {σ : L2.St} {B H B0 H0 : Hp} {pos tpos : Pos} {D : Ends} {c C dx : Addr} {fs : List (Str × V)} {f : Str} {i j : Int}
/-- o.f += an int -/
theorem ws_cellAug (a : Cell B0 H0 c C dx fs B H) (h0 : H0 c = none) (ho : ∀ C', Same B C' → XE X o σ C' (Is (.ref c))) (hv : XI X value σ B j) (cl : Cls X.K C) (n : NoAttr X.K C f) (hf : fs.lookup f = some (.int i)) (hl : fs.length < 1000)
    (k : ∀ B' H', Same B B' → Cell B0 H0 c C dx (putF f (.int (i + j)) fs) B' H' → D.nx σ H') : WS X (.AugAssign (.Attribute o f tpos) .Add value pos) D σ H := by
  refine ws_of (ps_fldaug peW peW in_add) ?_
  refine ho B (.refl _) H a.bh _ fun v B1 H1 g1 p1 => ?_
  obtain rfl : v = .ref c := p1
  have a1 := a.step g1
  refine ⟨c, C, dx, fs, _, rfl, a1.at', cl, n, hf, ?_⟩
  refine hv.up g1.bb H1 g1.bh _ fun u B2 H2 g2 p2 => ?_
  obtain rfl := Dq.int_v p2
  have a2 := a1.step g2
  exact ⟨i, j, rfl, rfl, dx, fs, a2.at', hl, k B2 _ (g1.bb.trans g2.bb) (a2.put h0)⟩
end
/-- the console at c, one's own -/
structure OwnCon (K : PySem.W.Frag) (CS CC : Addr) (B0 H0 : Hp) (c dx : Addr) (y : StD) (n : Nat) (B H : Hp) : Prop where
  ex : ∃ sv ev, Cell B0 H0 c CC dx (cF sv n ev) B H ∧ ConK K CS y n sv ev B
/-- a method that changes the console: from y, n to what R tells -/
def SpM (K : PySem.W.Frag) (CS CC : Addr) {α : Type} (A : α → StD → Nat → Hp → List V → Prop) (R : α → StD → Nat → StD → Nat → Hp → V → Prop) : Sp := fun vs H Q _ => ∃ (x : α) (y : StD) (n : Nat) (B : Hp) (c dx : Addr) (args : List V),
  OwnCon K CS CC B (dropA H c) c dx y n B H ∧ vs = .ref c :: args ∧ A x y n B args ∧ ∀ y' n' v B' H', OwnCon K CS CC B (dropA H c) c dx y' n' B' H' → R x y n y' n' B' v → Q v H'
section
variable {P : Program} {w : World} {K : PySem.W.Frag} {mg : Str → Option Value} {base : Heap} {CS CC : Addr}
theorem fn_ofC {x qual : Str} {st : Stmt} {f : Addr} {fd : FuncData} {N ps : List Str} {k : Nat} {sp : Sp} (F : Fun K x qual st f fd) (S : FnScope N ps (defScope st)) (len : ∀ vs H Q E, sp vs H Q E → vs.length = ps.length)
    (body : ∀ (f : Addr) (cdv : Value) (A0 : Around) (outer : List Env) (s : Shared) (H : Hp) (vs : List V) (E : XK) (Q : VK), Room k (A0.deeper (envOfC qual (defScope st) s.heap.objs.size f cdv)) → sp vs H Q E →
      WSs (cxOf CX0 P w K mg base N qual (defScope st) f cdv A0 outer s H E).nox (defBody st) { nx := fun _ H' => Q .non H', rt := Q } (start N vs) H) : FnOk P w K mg base CX0 (k + 1) f fd ps sp :=
  F.ok S len fun cdv A0 outer s H vs Q E hr h => ⟨_, pssW, body f cdv A0 outer s H vs E Q hr h⟩
/-- reading the console's fields while it is one's own -/
theorem con_at {X : Cx} {e : Expr} {σ : L2.St} {B H B0 H0 : Hp} {c dx : Addr} {n : Nat} {sv ev : V} {P P2 : Hp → V → Prop} (a : Cell B0 H0 c CC dx (cF sv n ev) B H) (h : XE X e σ (upd B c (.ins CC dx (cF sv n ev))) P) (hP : ∀ B' v, B' c = some (.ins CC dx (cF sv n ev)) → P B' v → P2 (dropA B' c) v) : XEat X e σ B H P2 :=
  at_frozenI h hP a.bh a.at' a.lo
theorem mt_enter (C : TxtCon K mg CC) : MtOk P w K mg base CX0 1 CC "_enter" ["self", "state", "entry"] (SpM K CS CC (α := StD) (fun y' y n B args => n < 100 ∧ ∃ u w, args = [u, w] ∧ IsSt K CS y' B u) fun y' y n y2 n2 B v => y2 = y' ∧ n2 = n + 1 ∧ v = .non) := by
  obtain ⟨f, fd, hm, F⟩ := C.m_enter
  refine ⟨f, fd, fn_ofC F sc52_2 (fun vs H Q E h => by obtain ⟨_, _, _, _, _, _, _, _, rfl, ⟨_, _, _, rfl, _⟩, _⟩ := h; rfl) fun f cdv A0 outer s H vs E Q hr h => ?_, hm, F.binds fun _ _ _ _ _ _ us hl => match us, hl with | [_, _, _], _ => rfl⟩
  obtain ⟨y', y, n, B, c, dx, args, ⟨sv, ev, a, ck⟩, rfl, ⟨hn, u, w0, rfl, hu⟩, q⟩ := h
  obtain ⟨xs, es, u0, h1, h2, h3, h4, h5, h6, h7⟩ := ck
  have hda : (dropA H c) c = none := dropA_at _ _
  have sN : Same B (upd B c (.ins CC dx (cF sv n ev))) := same_new a.lo
  refine ws_cons (ws_cellPut (P := IsLs (xs ++ [u])) a hda (con_at a (P := IsLs (cutV xs none (some ((n : Int) + 1)) ++ [u])) (x_catV (x_slV (xs := xs) (l := none) (u := some ((n : Int) + 1)) (x_fld (P1 := Is (.ref c)) (x_is (i := 0) rfl) C.cls (C.no _ (by decide)) fun C' v s p => ⟨c, dx, _, sv, p, s _ _ upd_same, rfl, Mono.up (sN.trans s) h1⟩) True.intro
      (show XI _ _ _ _ ((n : Int) + 1) from x_add (x_fld (P1 := Is (.ref c)) (x_is (i := 0) rfl) C.cls (C.no _ (by decide)) fun C' v s p => ⟨c, dx, _, .int (n : Int), p, s _ _ upd_same, rfl, .int _⟩) x_int))
      (XE.imp (x_lst1 (P := Is u) (x_is (i := 1) rfl)) fun C' v s p => by
        obtain ⟨u', q1, rfl⟩ := p
        exact q1) ?_) (fun B' v hc p => by
        rw [cutV_all xs h2] at p
        exact isLs_drop hc p)) (fun C' _ => x_is (i := 0) rfl) C.cls (C.no "_states" (by decide)) (Nat.le_of_ble_eq_true rfl) fun sv2 B2 H2 s2 e2 c2 => ?_)
  · rw [cutV_all xs h2, h2, line_big]
    simp
    omega
  · refine ws_cons (ws_cellAug (i := (n : Int)) c2 hda (fun C' _ => x_is (i := 0) rfl) x_int C.cls (C.no "_at" (by decide)) rfl (Nat.le_of_ble_eq_true rfl) fun B3 H3 s3 c3 => ?_)
    have s13 := s2.trans s3
    have sN3 : Same B3 (upd B3 c (.ins CC dx (putF "_at" (.int ((n : Int) + 1)) (putF "_states" sv2 (cF sv n ev))))) := same_new c3.lo
    refine ws_one (ws_cellPut (P := IsLs (es ++ [w0])) c3 hda (at_frozenI (P := IsLs (es ++ [w0])) (x_catV (x_fld (P1 := Is (.ref c)) (x_is (i := 0) rfl) C.cls (C.no _ (by decide)) fun C' v s p => ⟨c, dx, _, ev, p, s _ _ upd_same, rfl, Mono.up ((s13.trans sN3).trans s) h5⟩) (XE.imp (x_lst1 (P := Is w0) (x_is (i := 2) rfl)) fun C' v s p => by
        obtain ⟨u', q1, rfl⟩ := p
        exact q1) ?_) (fun B' v hc p => isLs_drop hc p) c3.bh c3.at' c3.lo) (fun C' _ => x_is (i := 0) rfl) C.cls (C.no "_entries" (by decide)) (Nat.le_of_ble_eq_true rfl) fun ev2 B4 H4 s4 e4 c4 => ?_)
    · rw [line_big]
      simp
      omega
    · have s24 := s3.trans s4
      have s14 := s13.trans s4
      refine q y' (n + 1) .non B4 H4 ⟨sv2, ev2, c4, xs ++ [u], es ++ [w0], u, Mono.up s24 e2, by rw [List.length_append, h2]; rfl, ?_, Mono.up (P := IsSt K CS y') s14 hu, e4, by rw [List.length_append]; simp; omega, by omega⟩ ⟨rfl, rfl, rfl⟩
      rw [List.getElem?_append_right (by omega), h2, Nat.sub_self]
      rfl
end
end TW
/-! WK7: Console.go. -/
namespace TW
open PySem PySem.Spec PyProof.Rows L2
section
variable {X : Cx} {e o : Expr} {es : List Expr} {σ : L2.St} {B H B0 H0 : Hp} {P : Hp → V → Prop} {pos pos' apos epos : Pos} {D : Ends}
/-- name = e, at one heap -/
theorem ws_setA {x : Str} (i : Nat) (h : XEat X e σ B H P) (k : ∀ v B' H', Gr B H B' H' → P B' v → D.nx (σ.set i (some v)) H') (hN : X.N.Nodup) (hi : X.N[i]? = some x := by rfl) (hx : Loc X.env.scope x := by first | exact Or.inl rfl | exact Or.inr rfl)
    (hs : swapsWith e (some (.Name x pos')) pos.line X.env = pure false := by rfl) (hf : X.fn x = true ∨ X.env.scope.names.lookup x = some .local := by first | exact .inl rfl | exact .inr rfl | assumption) : WS X (.Assign [.Name x pos'] e pos) D σ H :=
  ws_of (ps_set hN hi hx peW hs hf) (h _ k)
/-- the cell's base is moved on -/
theorem Cell.own {c C dx : Addr} {fs : List (Str × V)} {B' H' : Hp} (a : Cell B0 H0 c C dx fs B H) (h0 : H0 c = none) {fs' : List (Str × V)} (b : Cell B (dropA H c) c C dx fs' B' H') : Cell B0 H0 c C dx fs' B' H' := ⟨a.gr.own h0 b.gr, b.lo, b.at'⟩
theorem Cell.here {c C dx : Addr} {fs : List (Str × V)} (a : Cell B0 H0 c C dx fs B H) : Cell B (dropA H c) c C dx fs B H := ⟨Gr.takeOut a.bh a.lo, a.lo, a.at'⟩
/-- self._enter(state, entry) as a row -/
theorem ws_enter {K : PySem.W.Frag} {CS CC c dx : Addr} {y y' : StD} {n : Nat} {sv ev : V} {e2 : Expr} {d : PyData} {pl : Sem Bool} (hK : X.K = K) (C : TxtCon X.K X.mg CC) (G : MtOk X.prog X.w X.K X.mg X.base CX0 1 CC "_enter" ["self", "state", "entry"] (SpM X.K CS CC (α := StD) (fun y' y n B args => n < 100 ∧ ∃ u w, args = [u, w] ∧ IsSt X.K CS y' B u) fun y' y n y2 n2 B v => y2 = y' ∧ n2 = n + 1 ∧ v = .non))
    (hr : Room 1 X.A) (a : Cell B0 H0 c CC dx (cF sv n ev) B H) (h0 : H0 c = none) (ck : ConK X.K CS y n sv ev B) (hn : n < 100) (ho : ∀ C', Same B C' → XE X o σ C' (Is (.ref c))) (h1 : XE X e σ B (IsSt X.K CS y')) (h2 : XE X e2 σ B (DD X.K d))
    (k : ∀ sv' ev' B' H', Same B B' → Cell B0 H0 c CC dx (cF sv' (n + 1) ev') B' H' → ConK X.K CS y' (n + 1) sv' ev' B' → D.nx σ H')
    (hst : starEach [e, e2] X.env = (false, eval e X.env) :: starEach [e2] X.env := by rfl) (hst2 : starEach [e2] X.env = (false, eval e2 X.env) :: starEach [] X.env := by rfl) (hpl : (backTo pos (starEach [e2] X.env)).any (·.1) = false := by rfl)
    (ht : eval (.Call (.Attribute o "_enter" apos) [e, e2] [] pos) X.env = (do
      let ov ← eval o X.env
      standAt apos.atName
      let (f, first) ← holding [ov] (getMethod ov "_enter" pl)
      callWith pos f first (backTo pos (starEach [e, e2] X.env)) (backToKw pos (keywordEach [] X.env))) := by rfl)
    (hs : swapsWith (.Call (.Attribute o "_enter" apos) [e, e2] [] pos) none epos.line X.env = pure false := by rfl) : WS X (.Expr (.Call (.Attribute o "_enter" apos) [e, e2] [] pos) epos) D σ H := by
  obtain ⟨f, fd, F, hm, hb⟩ := G.ex
  refine ws_of (ps_expr (pe_meth (E := E0) (pl := pl) peW C.cls hm F hr hb .nil pass0 paW hst hpl ht) hs) ?_
  refine ho B (.refl _) H a.bh _ fun v B1 H1 g1 p1 => ?_
  obtain rfl : v = .ref c := p1
  have a1 := a.step g1
  refine ⟨c, dx, _, rfl, a1.at', rfl, ?_⟩
  refine (xp_cons (P := IsSt X.K CS y') h1 (xp_cons (P := DD X.K d) h2 xp_nil hst2) hst).up g1.bb H1 g1.bh _ fun vs B2 H2 g2 p2 => ?_
  obtain ⟨u, r, rfl, q1, w, r2, rfl, q2, rfl⟩ := p2
  have a2 := a1.step g2
  have s2 := g1.bb.trans g2.bb
  refine ⟨y', y, n, B2, c, dx, [u, w], ⟨sv, ev, a2.here, ck.up s2⟩, rfl, ⟨hn, u, w, rfl, q1⟩, fun y3 n3 v3 B3 H3 oc r3 => ?_⟩
  obtain ⟨rfl, rfl, rfl⟩ := r3
  obtain ⟨sv', ev', a3, ck3⟩ := oc
  exact k sv' ev' B3 H3 (s2.trans a3.gr.bb) (a2.own h0 a3) ck3
end
/-- what go asks -/
structure GoOk (y : StD) (hour : Int) : Prop where
  wd : Wd y.h y.ships
  pr : y.pr.length = y.ships.length
  hr : inB hour y.here.1 (y.h.last + 1) = true
  st : ∀ k, k ≤ (hour - y.here.1).toNat → Stt y.h y.ships (goIter y.ships y.way y.here k)
  mv : ∀ k, k < (hour - y.here.1).toNat → isEnd (goIter y.ships y.way y.here k).2 = false → MvOk y.ships (movesAt y.way (goIter y.ships y.way y.here k).1)
  wl : y.way.length ≤ 500
  dl : y.done.length ≤ 500
  hw : hasWay y.h y.ships (goIter y.ships y.way y.here (hour - y.here.1).toNat) y.pr = true
def goSt (y : StD) (hour : Int) : StD := mkSt (y.h, y.ships, goIter y.ships y.way y.here (hour - y.here.1).toNat, y.done ++ freshOf y.way hour, y.pr)
theorem stepGo_hour (ships : List Ship) (way : List Trip) (s : Sta) : (stepGo ships way s).1 = s.1 + 1 := by
  unfold stepGo
  split <;> rfl
theorem goIter_hour (ships : List Ship) (way : List Trip) (s : Sta) : ∀ k, (goIter ships way s k).1 = s.1 + k
  | 0 => by simp [goIter]
  | k + 1 => by
    show (stepGo ships way (goIter ships way s k)).1 = _
    rw [stepGo_hour, goIter_hour ships way s k]
    omega
section
variable {P : Program} {w : World} {K : PySem.W.Frag} {mg : Str → Option Value} {base : Heap} {CS CC CN : Addr}
theorem mt_go (T : Txt K mg) (S : TxtS K mg CS) (C : TxtCon K mg CC) (NW : RaiseNW P K mg CN) (ne : CS ≠ CC) : MtOk P w K mg base CX0 10 CC "go" ["self", "hour"] (SpM K CS CC (α := Int) (fun hour y n B args => (GoOk y hour ∧ n < 100) ∧ DqAll K B args [.int hour]) fun hour y n y2 n2 B v => y2 = goSt y hour ∧ n2 = n + 1 ∧ Dq K B v (eTrips (freshOf y.way hour))) := by
  obtain ⟨f, fd, hm, F⟩ := C.m_go
  refine ⟨f, fd, fn_ofC F sc52_4 (fun vs H Q E h => by
    obtain ⟨_, _, _, _, _, _, args, _, rfl, ⟨_, ha⟩, _⟩ := h
    show args.length + 1 = 2
    rw [ha.length]
    rfl) fun f cdv A0 outer s H vs E Q hr h => ?_, hm, F.binds fun _ _ _ _ _ _ us hl => match us, hl with | [_, _], _ => rfl⟩
  obtain ⟨hour, y, n, B, c, dx, args, ⟨sv, ev, a, ck⟩, rfl, ⟨⟨ok, hn⟩, hv⟩, q⟩ := h
  obtain ⟨hvv, rfl, rh⟩ := inv1 hv
  have hda : (dropA H c) c = none := dropA_at _ _
  have sN : Same B (upd B c (.ins CC dx (cF sv n ev))) := same_new a.lo
  have hin := ok.hr
  unfold inB at hin
  simp only [Bool.and_eq_true, decide_eq_true_eq] at hin
  refine ws_cons (ws_setA (P := IsSt K CS y) 2 (con_at a (P := IsSt K CS y) (x_cst C (hr.mono (by decide)) (XE.imp (P1 := Is (.ref c)) (x_is (i := 0) rfl) fun C' v s p => ⟨c, dx, sv, ev, n, p, s _ _ upd_same, ck.up (sN.trans s)⟩)) fun B' v hc p => IsSt.drop ne hc p) (fun u B1 H1 g1 p1 => ?_) sc52_4.nd)
  have a1 := a.step g1
  have ck1 := ck.up g1.bb
  have rh1 := Dq.up g1.bb _ _ rh
  refine ws_cons (ws_if (t := !inB hour y.here.1 (y.h.last + 1)) (xt_not (xt_v (x_call (y := (hour, y.here.1, y.h.last + 1)) (dn13 T) (hr.mono (by decide)) rfl (xd_cons (x_var 1 rfl rh1) (xd_cons (x_ixT (x_stE S (x_var (P := IsSt K CS y) 2 rfl p1)) x_int rfl) (xd_cons (x_add (x_ixT (x_stH S (x_var (P := IsSt K CS y) 2 rfl p1)) x_int rfl) x_int) xd_nil)))))) a1.bh (fun h => ?_) fun _ B2 H2 g2 => ?_)
  · rw [ok.hr] at h
    cases h
  · have a2 := a1.step g2
    have ck2 := ck1.up g2.bb
    have p2 := Mono.up (P := IsSt K CS y) g2.bb p1
    have rh2 := Dq.up g2.bb _ _ rh1
    refine ws_nil (ws_cons (ws_set (P := DD K (eSta y.here)) 3 (x_stE S (x_var (P := IsSt K CS y) 2 rfl p2)) a2.bh (fun hv B3 H3 g3 p3 => ?_) (hN := sc52_4.nd)))
    have a3 := a2.step g3
    have sL : (freshOf y.way hour).length ≤ y.way.length := List.length_filter_le ..
    refine ws_cons (ws_while (fun m σ' H' => ∃ B' k hv x4 x5 x6 x7 x8 x9, σ' = [some (.ref c), some hvv, some u, some hv, x4, x5, x6, x7, x8, x9] ∧ Cell B (dropA H c) c CC dx (cF sv n ev) B' H' ∧ Same B3 B' ∧ Dq K B' hv (eSta (goIter y.ships y.way y.here k)) ∧ k + m = (hour - y.here.1).toNat)
      (hour - y.here.1).toNat ?_ ?_)
    · exact ⟨B3, 0, hv, _, _, _, _, _, _, rfl, a3, .refl _, p3, Nat.zero_add _⟩
    · rintro m σ' H' ⟨B4, k, hv, x4, x5, x6, x7, x8, x9, rfl, a4, s4, ph, hkm⟩
      have hh := goIter_hour y.ships y.way y.here k
      refine ⟨decide ((goIter y.ships y.way y.here k).1 < hour), B4, a4.bh, xt_cmp c_lt (x_ixT (x_var 3 rfl ph) x_int rfl) (x_var 1 rfl (Dq.up (g3.bb.trans s4) _ _ rh2)), fun hlt B5 H5 g5 => ?_, fun hge B5 H5 g5 => ?_⟩
      · have hlt' := of_decide_eq_true hlt
        obtain ⟨m', rfl⟩ : ∃ m', m = m' + 1 := ⟨m - 1, by omega⟩
        have a5 := a4.step g5
        have s35 := s4.trans g5.bb
        have p5 := Mono.up (P := IsSt K CS y) (g3.bb.trans s35) p2
        have ph5 := Dq.up g5.bb _ _ ph
        refine ⟨fun σ' H' => ∃ B' hv x4 x5 x6 x7 x8 x9, σ' = [some (.ref c), some hvv, some u, some hv, x4, x5, x6, x7, x8, x9] ∧ Cell B (dropA H c) c CC dx (cF sv n ev) B' H' ∧ Same B3 B' ∧ Dq K B' hv (eSta (goIter y.ships y.way y.here (k + 1))),
          fun σ2 H6 ⟨B6, hv6, y4, y5, y6, y7, y8, y9, e, a6, s6, p6⟩ => ⟨m', Nat.lt_succ_self _, B6, k + 1, hv6, y4, y5, y6, y7, y8, y9, e, a6, s6, p6, by omega⟩, ?_⟩
        refine ws_cons (ws_setLc (l := y.way) (enc := eTrip) (enc' := ePair) (own := o52_4_0) 4 (xi_list (x_stW S (x_var (P := IsSt K CS y) 2 rfl p5))) (fun p => if p.1 = (goIter y.ships y.way y.here k).1 then some (p.2.1, p.2.2) else none) ?_ a5.bh (fun mvv B6 H6 g6 p6 => ?_) (by rw [line_big]; have := ok.wl; omega) rfl sc52_4.nd bk52_4_0 rfl)
        · intro i t v B' ea sb' hd
          obtain ⟨l, w1, w2, w3, rfl, hq, q1, q2, q3⟩ := tup3 hd
          apply lc_turn
          · rintro XB ⟨_, _, _, _, _, rfl⟩
            refine ⟨xg_tup rfl hq (xgs_cons (xg_name 6 sc52_4.nd) (xgs_cons (xg_name 7 sc52_4.nd) (xgs_cons (xg_name 8 sc52_4.nd) xgs_nil))), xts_one (XT.is (xt_cmp (c_eqI (un64 hr)) (x_var 6 rfl q1) (x_ixT (x_var 3 rfl (Dq.up sb' _ _ ph5)) x_int rfl)) ?_), fun r hr' => ?_⟩
            · rw [isSome_if]
            · obtain ⟨_, rfl⟩ : _ ∧ (t.2.1, t.2.2) = r := by simpa using hr'
              exact x_tup (xd_cons (x_var 7 rfl q2) (xd_cons (x_var 8 rfl q3) xd_nil))
          · rfl
        · have a6 := a5.step g6
          have ph6 := Dq.up g6.bb _ _ ph5
          have p6' := Mono.up (P := IsSt K CS y) g6.bb p5
          have hst := ok.st k (by omega)
          have eg : goIter y.ships y.way y.here (k + 1) = stepGo y.ships y.way (goIter y.ships y.way y.here k) := rfl
          refine ws_one (ws_set (P := DD K (eSta (goIter y.ships y.way y.here (k + 1)))) 3 (x_if (t := isEnd (goIter y.ships y.way y.here k).2) (xt_v (x_call (y := goIter y.ships y.way y.here k) (dn45 T) (hr.mono (by decide)) rfl (xa_cons (P0 := DD K _) (PL := DDs K []) (x_var 3 rfl ph6) xd_nil (fun _ _ _ _ a b => ⟨by rw [hst.pl]; have := ok.wd.sn; omega, .cons a b⟩)))) (fun he => ?_) fun he => ?_) a6.bh (fun hv7 B7 H7 g7 p7 => ⟨B7, hv7, _, _, _, _, _, _, rfl, a6.step g7, (s35.trans g6.bb).trans g7.bb, p7⟩) (hN := sc52_4.nd))
          · rw [eg]
            unfold stepGo
            rw [if_pos he]
            exact x_tup (xd_cons (x_add (x_ixT (x_var 3 rfl ph6) x_int rfl) x_int) (xd_cons (x_ixT (x_var 3 rfl ph6) x_int rfl) xd_nil))
          · rw [eg]
            unfold stepGo
            rw [he, if_neg (by simp)]
            have mo := ok.mv k (by omega) he
            refine x_call (y := (y.ships, goIter y.ships y.way y.here k, movesAt y.way (goIter y.ships y.way y.here k).1)) (dn32 T) (hr.mono (by decide)) rfl (XA.imp (P := DDs K [eShips y.ships, eSta (goIter y.ships y.way y.here k), .tuple ((movesAt y.way (goIter y.ships y.way y.here k).1).map ePair)]) (xd_cons (x_stS S (x_var (P := IsSt K CS y) 2 rfl p6')) (xd_cons (x_var 3 rfl ph6) (xd_cons (x_tupleOf rfl T.b_tuple (x_var 4 rfl p6)) xd_nil))) fun C' vs _ q => ⟨⟨ok.wd.sn, hst.pl, mo⟩, q⟩)
      · have hge' := of_decide_eq_false hge
        obtain rfl : m = 0 := by omega
        have hk : k = (hour - y.here.1).toNat := by omega
        subst hk
        have a5 := a4.step g5
        have s35 := s4.trans g5.bb
        have s25 := g3.bb.trans s35
        have p5 := Mono.up (P := IsSt K CS y) s25 p2
        have ph5 := Dq.up g5.bb _ _ ph
        refine ws_cons (ws_setLc (l := y.way) (enc := eTrip) (enc' := eTrip) (own := o52_4_1) 5 (xi_list (x_stW S (x_var (P := IsSt K CS y) 2 rfl p5))) (fun p => if decide (p.1 < hour) = true then some p else none) ?_ a5.bh (fun fv B6 H6 g6 p6 => ?_) (by rw [line_big]; have := ok.wl; omega) rfl sc52_4.nd bk52_4_1 rfl)
        · intro i t v B' ea sb' hd
          apply lc_turn
          · rintro XB ⟨_, _, _, _, _, rfl⟩
            refine ⟨xg_name 9 sc52_4.nd, xts_one (XT.is (xt_cmp c_lt (x_ixT (x_var 9 rfl hd) x_int rfl) (x_var 1 rfl (Dq.up (s25.trans sb') _ _ rh2))) ?_), fun r hr' => ?_⟩
            · rw [isSome_if]
              simp
            · obtain ⟨_, rfl⟩ : _ ∧ t = r := by simpa using hr'
              exact x_var 9 rfl hd
          · rfl
        · have a6 := a5.step g6
          have ck6 := (ck2.up s25).up g6.bb
          have p6' := Mono.up (P := IsSt K CS y) g6.bb p5
          have ph6 := Dq.up g6.bb _ _ ph5
          have ef : y.way.filterMap (fun p => if decide (p.1 < hour) = true then some p else none) = freshOf y.way hour := by
            unfold freshOf
            rw [← List.filterMap_eq_filter]
            congr 1
          rw [ef] at p6
          refine ws_cons (ws_enter (K := K) (y' := goSt y hour) (d := .tuple [.str "go", .int hour]) rfl C (mt_enter C) (hr.mono (by decide)) a6 hda ck6 hn (fun C' _ => x_is (i := 0) rfl) ?_ ?_ fun sv' ev' B7 H7 s7 a7 ck7 => ?_)
          · refine x_mkSt (CN := CN) (y := (y.h, y.ships, goIter y.ships y.way y.here (hour - y.here.1).toNat, y.done ++ freshOf y.way hour, y.pr)) (stMk T S NW) hr rfl (XA.imp (P := DDs K [eHarb y.h, eShips y.ships, eSta (goIter y.ships y.way y.here (hour - y.here.1).toNat), .list (y.done.map eTrip ++ (freshOf y.way hour).map eTrip), eProm y.pr]) (xd_cons (x_stH S (x_var (P := IsSt K CS y) 2 rfl p6')) (xd_cons (x_stS S (x_var (P := IsSt K CS y) 2 rfl p6')) (xd_cons (x_var 3 rfl ph6) (xd_cons (x_cat (x_stD S (x_var (P := IsSt K CS y) 2 rfl p6')) (x_var 5 rfl p6) ?_) (xd_cons (x_stP S (x_var (P := IsSt K CS y) 2 rfl p6')) xd_nil))))) fun C' vs _ q => ⟨⟨ok.wd, ok.st _ (Nat.le_refl _), ok.pr⟩, ?_⟩) ok.hw
            · rw [List.length_map, List.length_map, line_big]
              have := ok.wl
              have := ok.dl
              omega
            · show DqAll K C' vs [eHarb y.h, eShips y.ships, _, .list ((y.done ++ freshOf y.way hour).map eTrip), _]
              rw [List.map_append]
              exact q
          · exact x_tup (xd_cons x_str (xd_cons (x_var 1 rfl (Dq.up (s25.trans g6.bb) _ _ rh2)) xd_nil))
          · refine ws_one (ws_ret (P := DD K (eTrips (freshOf y.way hour))) (x_var 5 rfl (Dq.up s7 _ _ p6)) a7.bh fun v B8 H8 g8 p8 => ?_)
            exact q (goSt y hour) (n + 1) v B8 H8 ⟨sv', ev', a7.step g8, ck7.up g8.bb⟩ ⟨rfl, rfl, p8⟩
end
end TW
/-! WX: own exceptions over ValueError whose __init__ says super().__init__(text). -/
namespace TW
open PySem PySem.Spec PyProof.Rows L2
open PySem.W PySem.Calls PySem.HandSPX
section
variable {prog : Program} {w : World} {A : Around} {E : Value → Shared → Prop} {h : Heap} {g : Array GenState} {d : Drawn} {t : Nat} {os : OsState}
variable {nm q : Str} {C N : Addr} {bs bm : List Value} {hdct : Bool} {sn : List Str} {sub : List Value} {ab : Bool} {col : Option Bool} {dd : Option Addr} {k0 k1 k2 k3 k5 : Option Value}
/-- ValueError.__init__ bound to e, called -/
theorem call_bv {u e t0 : Addr} {rest : List Value} {Q : Value → Shared → Prop}
    (hC : h.get? C = some (excClassObj nm q C N bs bm hdct sn sub ab col dd k0 k1 k2 k3 k5 "ValueError.__new__")) (he : h.get? e = some (excO C t0)) (hu : h.get? u = some (kxs_mw "ValueError.__init__" e)) (hrest : rest.length ≤ sizeLine)
    (hq : ∀ h' t1, (∀ b o, b ≠ e → h.get? b = some o → h'.get? b = some o) → h'.get? e = some (excO C t1) → Q .none ⟨h', g, d, t, os⟩) :
    wpAny (model prog w) A (call (.ref u) rest) Q E ⟨h, g, d, t, os⟩ := by
  refine wpAny_call (codeAny_of_tree ?_)
  show wpAny _ A.in1 (callAny (.ref u) ⟨rest, []⟩) _ _ _
  simp only [callAny]
  refine wpAny_bind (wpAny_load hu ?_)
  simp only [kxs_mw, show (Value.type "method-wrapper" == Value.type "method" || Value.type "method-wrapper" == Value.type "builtin_function_or_method" || Value.type "method-wrapper" == Value.type "method-wrapper") = true by decide, if_true]
  refine W.KFB.if_so (by decide) ?_
  refine wpAny_bind (ESX.check_bound F.excBase_ValueError hC he rfl ?_)
  refine wpAny_bind (wpAny_pure (wpAny_pure ?_))
  refine ⟨Code.quiet_builtin _ (by decide +kernel), codeAny_builtin F.excBase_ValueError.initEntry ?_⟩
  rw [Around.under_plainId F.excBase_ValueError.init.plain _]
  wp_walk
  refine hq _ h.objs.size (fun b o hb ho => ?_) ?_
  · rw [Heap.get?_update_other _ _ (Ne.symm hb)]
    exact Heap.get?_push_of_some _ ho
  · rw [Heap.get?_update_self _ (Heap.get?_push_of_some _ he) rfl]
    rfl
end
/-- what the written part says of such a class: its __init__ st closes over __class__ -/
structure ExT (P : Program) (K : Frag) (mg : Str → Option Value) (x qual : Str) (st : Stmt) (C : Addr) : Prop where
  mg_ : mg x = some (.ref C)
  ox : OexC K C
  ve : subIn K (.ref C) (.type "ValueError") = some true
  opq : nsIn K cStatics "thirdparty.any" = some none
  sup : ks_superIn K C C "__init__" = some (some (.builtin "ValueError.__init__"))
  me : mroIn K C (.ref C) = some true
  ini : ∃ (fI cc cda : Addr) (oc cl ccl kV doc pm ct : Value) (od cld cdd an : Option Addr) (osl csl ccs : Array (Option Value)) (vs : Array Value) (tf : Tok),
    findIn K (.ref C) "__init__" = some (some (.ref fI)) ∧ typeIn K (.ref fI) = some (.type "function") ∧ K.lookup fI = some ⟨oc, od, .func (ksFn "__init__" qual (defArgs st) (defBody st) (defScope st) .none kV doc pm an (.ref cda) ct cc), osl⟩ ∧
    codeIn K (.ref cda) qual = true ∧ K.lookup cc = some ⟨cl, cld, .cell (some (.ref C)), csl⟩ ∧ K.lookup cda = some ⟨ccl, cdd, .fields vs, ccs⟩ ∧ vs[2]? = some (.str P.main.file tf)
  nosup : (P.main.scope.names.lookup ("super" : Str)).isSome = false
  nomg : mg "super" = none
section
variable {prog : Program} {w : World} {A : Around} {E : Value → Shared → Prop} {s : Shared} {K : Frag} {mg mb : Str → Option Value} {C f cc cda L x t0 : Addr} {q : Str} {scope : Scope} {body : List Stmt} {p1 p2 p3 p4 p5 p6 : Pos} {j : Nat} {text : Str} {fd : FuncData} {oc cl ccl : Value} {od cld cdd : Option Addr} {osl csl ccs : Array (Option Value)} {vs : Array Value} {tf : Tok} {ar : Arg} {m : Str → Option Value}
/-- super().__init__('text') as a row -/
theorem super_row (ox : OexC K C) (hve : subIn K (.ref C) (.type "ValueError") = some true) (hopq : nsIn K cStatics "thirdparty.any" = some none) (hsup : ks_superIn K C C "__init__" = some (some (.builtin "ValueError.__init__"))) (hme : mroIn K C (.ref C) = some true)
    (X : K.In s.heap) (hns : s.heap.Ns L m) (hself : m ar.arg = some (.ref x)) (hx : s.heap.get? x = some (excO C t0)) (hglob : s.heap.Ns mainGlobals mg) (hmg : mg "super" = none) (hblt : s.heap.Ns builtinsNs mb) (hmb : mb "super" = some (.type "super"))
    (hf : K.lookup f = some ⟨oc, od, .func fd, osl⟩) (hp : (fd.params.posonlyargs ++ fd.params.args).head? = some ar) (hcode : K.lookup cda = some ⟨ccl, cdd, .fields vs, ccs⟩) (hvs : vs[2]? = some (.str prog.main.file tf)) (htop : (prog.main.scope.names.lookup ("super" : Str)).isSome = false)
    (hcell : K.lookup cc = some ⟨cl, cld, .cell (some (.ref C)), csl⟩) (hks : scope.names.lookup ("super" : Str) = some .globalImplicit) (hkc : scope.names.lookup ("__class__" : Str) = some .free) (hka : scope.names.lookup ar.arg = some .local) (hk : scope.kind = .function)
    {Q : Flow → Shared → Prop} {pl : Sem Bool} (hi : interactive (ksEnv q scope L f (.ref cda) cc) = false) (hsw : swapsWith (.Call (.Attribute (.Call (.Name "super" p1) [] [] p2) "__init__" p3) [.Constant (.str text) j p4] [] p5) none p6.line (ksEnv q scope L f (.ref cda) cc) = pure false)
    (hev : eval (.Call (.Attribute (.Call (.Name "super" p1) [] [] p2) "__init__" p3) [.Constant (.str text) j p4] [] p5) (ksEnv q scope L f (.ref cda) cc) = (do
      let ov ← attributeBase (.Call (.Name "super" p1) [] [] p2) "__init__" (ksEnv q scope L f (.ref cda) cc) (eval (.Call (.Name "super" p1) [] [] p2) (ksEnv q scope L f (.ref cda) cc))
      standAt p3.atName
      let (g0, first) ← holding [ov] (getMethod ov "__init__" pl)
      callWith p5 g0 first (backTo p5 (starEach [.Constant (.str text) j p4] (ksEnv q scope L f (.ref cda) cc))) []))
    (hq : ∀ h' t1 tk, (∀ b o, b ≠ x → s.heap.get? b = some o → h'.get? b = some o) → h'.get? x = some (excO C t1) → Q .next { s with heap := h', toks := tk }) :
    _root_.PySem.wpAt (model prog w) A (.func body (ksEnv q scope L f (.ref cda) cc)) (exec (.Expr (.Call (.Attribute (.Call (.Name "super" p1) [] [] p2) "__init__" p3) [.Constant (.str text) j p4] [] p5) p6) (ksEnv q scope L f (.ref cda) cc)) Q E s := by
  obtain ⟨nm, q', N, bs, bm, sn, sub, ab, col, dd, k0, k1, k2, k3, k5, hC, hbm⟩ := ox.cls
  have hcl : clsIn K C = some { name := nm, bases := bs, mro := .ref C :: bm, ns := N, qualname := q', hasDict := true, slotNames := sn, subclasses := sub, abstract := ab, collection := col, hasDel := false } := by unfold clsIn; rw [hC] <;> rfl
  have hCh := X _ _ hC
  obtain ⟨hh, g, d, t, os⟩ := s
  have I0 : InstAt hh x (excO C t0) C none := ⟨hx, rfl, rfl, trivial⟩
  refine ks_wpAt_Expr_any (ks_wpAt_MethodCall ?_ hev) hi hsw
  refine ks_wpAt_super_base (env := ksEnv q scope L f (.ref cda) cc) hks hkc (by decide) rfl (X _ _ hf) rfl hp rfl (X _ _ hcode) rfl hvs (by simp) htop ?_
  refine ks_loadName_global hk hks (loadGlobal_builtin (env := ksEnv q scope L f (.ref cda) cc) hglob hmg hblt hmb ⟨rfl, ?_⟩)
  refine wpAny_loadName_free hk hkc rfl ⟨_, X _ _ hcell, rfl⟩ ?_
  refine wpAny_loadName_local hk hka hns hself ?_
  refine ks_wpAny_isType_cls hCh rfl ⟨rfl, ?_⟩
  refine ks_wpAny_call_super hCh rfl hx rfl (fun c e => nomatch e) (looks_mroIn X hme) (fun h1 e1 k1' => ?_)
  have X1 : K.In h1 := X.keeps k1'
  have I1 : InstAt h1 x (excO C t0) C none := ⟨k1' _ _ hx, rfl, rfl, trivial⟩
  have hI : Looks (model prog w) h1 (isInstance (.ref x) (.type "ValueError")) true := I1.type.andThen (looks_subIn X1 hve)
  have hm' := hsup
  unfold ks_superIn at hm'
  rw [hcl] at hm'
  refine kxs_getMethod kxs_ValueError e1 (looks_opaque X1 hopq) (l₀ := .ref C :: bm) (fun A Q E s k q => wpAny_bind ((looks_clsIn X1 hcl) A _ E s k (wpAny_pure q))) rfl X1 hm' hI (ks_ne X1 I1 hcl) (by decide) ?_
  have e2 : (h1.push (kxs_mw "ValueError.__init__" x)).get? h1.objs.size = some (kxs_mw "ValueError.__init__" x) := Heap.get?_push_size _ rfl
  have k2' : ∀ b o, h1.get? b = some o → (h1.push (kxs_mw "ValueError.__init__" x)).get? b = some o := fun b o e => Heap.get?_push_of_some _ e
  generalize h1.push (kxs_mw "ValueError.__init__" x) = h2 at e2 k2'
  refine kxs_callWith (i := "ValueError.__init__") (x := x) rfl (evalArgs_plain ?_)
  show wpAny (model prog w) _ (spliced (backTo p5 (starEach [.Constant (.str text) j p4] (ksEnv q scope L f (.ref cda) cc)))) _ _ _
  refine args_cons ?_ rfl
  refine wpAny_Constant_str ?_
  refine args_nil ⟨e2, ?_⟩
  refine call_bv (k2' _ _ (k1' _ _ hCh)) (k2' _ _ (k1' _ _ hx)) e2 (by show 1 ≤ sizeLine; decide) fun h3 t1 k3 hx3 => ?_
  exact hq h3 t1 _ (fun b o hb e => k3 b o hb (k2' _ _ (k1' _ _ e))) hx3
end
end TW
set_option maxHeartbeats 400000
/-! WX2: NoWay.__init__, Clash.__init__. -/
namespace TW
open PySem PySem.Spec PyProof.Rows L2
open PySem.W PySem.Calls PySem.HandSPX
abbrev nwS : Scope := defScope (meth 8 0)
abbrev clS : Scope := defScope (meth 10 0)
theorem nw_cells : ∀ y ∈ nwS.names, y.2 ≠ .cell := by decide +kernel
theorem nw_self : nwS.names.lookup ("self" : Str) = some .local := by decide +kernel
theorem nw_super : nwS.names.lookup ("super" : Str) = some .globalImplicit := by decide +kernel
theorem nw_class : nwS.names.lookup ("__class__" : Str) = some .free := by decide +kernel
theorem nw_kind : nwS.kind = .function := rfl
theorem cl_cells : ∀ y ∈ clS.names, y.2 ≠ .cell := by decide +kernel
theorem cl_self : clS.names.lookup ("self" : Str) = some .local := by decide +kernel
theorem cl_ships : clS.names.lookup ("ships" : Str) = some .local := by decide +kernel
theorem cl_super : clS.names.lookup ("super" : Str) = some .globalImplicit := by decide +kernel
theorem cl_class : clS.names.lookup ("__class__" : Str) = some .free := by decide +kernel
theorem cl_kind : clS.kind = .function := rfl
theorem lk_self1 (x : Value) : ([(("self" : Str), x)] : List (Str × Value)).reverse.lookup ("self" : Str) = some x := by simp [List.lookup]
theorem ne_self : (("self" : Str) == ("ships" : Str)) = false := by decide
theorem lk_self2 (x v : Value) : ([(("self" : Str), x), (("ships" : Str), v)] : List (Str × Value)).reverse.lookup ("self" : Str) = some x := by simp [List.lookup, ne_self]
theorem lk_ships2 (x v : Value) : ([(("self" : Str), x), (("ships" : Str), v)] : List (Str × Value)).reverse.lookup ("ships" : Str) = some v := by simp [List.lookup]
def nwE : Expr := .Call (.Attribute (.Call (.Name "super" ⟨27, 8, 27, 13⟩) [] [] ⟨27, 8, 27, 15⟩) "__init__" ⟨27, 8, 27, 24⟩) [.Constant (.str "there is no way for the ships") 0 ⟨27, 25, 27, 56⟩] [] ⟨27, 8, 27, 57⟩
theorem nw_body : defBody (meth 8 0) = [.Expr nwE ⟨27, 8, 27, 57⟩] := rfl
def clE : Expr := .Call (.Attribute (.Call (.Name "super" ⟨36, 8, 36, 13⟩) [] [] ⟨36, 8, 36, 15⟩) "__init__" ⟨36, 8, 36, 24⟩) [.Constant (.str "promises cannot be kept together") 0 ⟨36, 25, 36, 59⟩] [] ⟨36, 8, 36, 60⟩
def clA : Stmt := .Assign [.Attribute (.Name "self" ⟨37, 8, 37, 12⟩) "ships" ⟨37, 8, 37, 18⟩] (.Name "ships" ⟨37, 21, 37, 26⟩) ⟨37, 8, 37, 26⟩
theorem cl_body : defBody (meth 10 0) = [.Expr clE ⟨36, 8, 36, 60⟩, clA] := rfl
section
variable {qual : Str} {L fI cda cc : Addr}
abbrev nwEnv (qual : Str) (L fI cda cc : Addr) : Env := ksEnv qual nwS L fI (.ref cda) cc
abbrev clEnv (qual : Str) (L fI cda cc : Addr) : Env := ksEnv qual clS L fI (.ref cda) cc
theorem nw_i : interactive (nwEnv qual L fI cda cc) = false := rfl
theorem nw_sw : swapsWith nwE none 27 (nwEnv qual L fI cda cc) = pure false := rfl
theorem nw_ev : ∃ pl, eval nwE (nwEnv qual L fI cda cc) = (do
      let ov ← attributeBase (.Call (.Name "super" ⟨27, 8, 27, 13⟩) [] [] ⟨27, 8, 27, 15⟩) "__init__" (nwEnv qual L fI cda cc) (eval (.Call (.Name "super" ⟨27, 8, 27, 13⟩) [] [] ⟨27, 8, 27, 15⟩) (nwEnv qual L fI cda cc))
      standAt (Pos.atName ⟨27, 8, 27, 24⟩)
      let (g0, first) ← holding [ov] (getMethod ov "__init__" pl)
      callWith ⟨27, 8, 27, 57⟩ g0 first (backTo ⟨27, 8, 27, 57⟩ (starEach [.Constant (.str "there is no way for the ships") 0 ⟨27, 25, 27, 56⟩] (nwEnv qual L fI cda cc))) []) := ⟨_, rfl⟩
theorem cl_i : interactive (clEnv qual L fI cda cc) = false := rfl
theorem cl_sw : swapsWith clE none 36 (clEnv qual L fI cda cc) = pure false := rfl
theorem cl_ev : ∃ pl, eval clE (clEnv qual L fI cda cc) = (do
      let ov ← attributeBase (.Call (.Name "super" ⟨36, 8, 36, 13⟩) [] [] ⟨36, 8, 36, 15⟩) "__init__" (clEnv qual L fI cda cc) (eval (.Call (.Name "super" ⟨36, 8, 36, 13⟩) [] [] ⟨36, 8, 36, 15⟩) (clEnv qual L fI cda cc))
      standAt (Pos.atName ⟨36, 8, 36, 24⟩)
      let (g0, first) ← holding [ov] (getMethod ov "__init__" pl)
      callWith ⟨36, 8, 36, 60⟩ g0 first (backTo ⟨36, 8, 36, 60⟩ (starEach [.Constant (.str "promises cannot be kept together") 0 ⟨36, 25, 36, 59⟩] (clEnv qual L fI cda cc))) []) := ⟨_, rfl⟩
end
section
variable {prog : Program} {w : World} {A : Around} {E : Value → Shared → Prop} {R : Result → Shared → Prop} {s : Shared} {K : Frag} {mg mb : Str → Option Value} {C fI cc cda x t0 : Addr} {oc cl ccl kV doc pm ct : Value} {od cld cdd an : Option Addr} {osl csl ccs : Array (Option Value)} {vs : Array Value} {tf : Tok}
theorem init_nw {qual : Str} (T : ExT prog K mg "NoWay" qual (meth 8 0) C) (hf : K.lookup fI = some ⟨oc, od, .func (ksFn "__init__" qual (defArgs (meth 8 0)) (defBody (meth 8 0)) nwS .none kV doc pm an (.ref cda) ct cc), osl⟩) (hcd : codeIn K (.ref cda) qual = true)
    (hcell : K.lookup cc = some ⟨cl, cld, .cell (some (.ref C)), csl⟩) (hcode : K.lookup cda = some ⟨ccl, cdd, .fields vs, ccs⟩) (hvs : vs[2]? = some (.str prog.main.file tf)) (X : K.In s.heap) (hlim : s.heap.NoLimit) (hroom : A.depth < recursionLimit) (hx : s.heap.get? x = some (excO C t0))
    (hglob : s.heap.Ns mainGlobals mg) (hblt : s.heap.Ns builtinsNs mb) (hmb : mb "super" = some (.type "super"))
    (hq : ∀ h' t1 tk, (∀ b o, b ≠ x → s.heap.get? b = some o → h'.get? b = some o) → h'.get? x = some (excO C t1) → R (.ok (.ret .none)) { s with heap := h', toks := tk }) : codeAny (model prog w) A (.call (.ref fI) ⟨[.ref x], []⟩) R s := by
  obtain ⟨pl, hev⟩ := nw_ev (qual := qual) (L := s.heap.objs.size) (fI := fI) (cda := cda) (cc := cc)
  refine ks_codeAny_call_defAt (fd := ksFn "__init__" qual (defArgs (meth 8 0)) (defBody (meth 8 0)) nwS .none kV doc pm an (.ref cda) ct cc) (body := [.Expr nwE ⟨27, 8, 27, 57⟩]) (binds := [("self", .ref x)]) hroom (X _ _ hf) rfl hlim (codeRec_of X hcd) (by rw [← nw_body]) (BindsTo.of_eq rfl) nw_cells (fun y hy => by rw [List.mem_singleton.mp hy]; exact nw_self) (fun h0 hns hk => ?_) rfl rfl rfl
  refine ks_wpAt_execs_cons (super_row (q := qual) (scope := nwS) (text := "there is no way for the ships") (ar := { arg := "self", annotation := none, pos := ⟨26, 17, 26, 21⟩ }) (p6 := ⟨27, 8, 27, 57⟩) T.ox T.ve T.opq T.sup T.me (X.keeps hk) hns (lk_self1 (.ref x)) (hk _ _ hx) (hglob.keeps hk) T.nomg (hblt.keeps hk) hmb hf rfl hcode hvs T.nosup hcell nw_super nw_class nw_self nw_kind nw_i nw_sw hev fun h' t1 tk k hx' => ?_)
  exact wpAt_of_wpAny (wpAny_execs_nil (hq h' t1 tk (fun b o hb e => k b o hb (hk b o e)) hx'))
theorem init_cl {qual : Str} {v : Value} (T : ExT prog K mg "Clash" qual (meth 10 0) C) (noS : findIn K (.ref C) "ships" = some none) (hf : K.lookup fI = some ⟨oc, od, .func (ksFn "__init__" qual (defArgs (meth 10 0)) (defBody (meth 10 0)) clS .none kV doc pm an (.ref cda) ct cc), osl⟩) (hcd : codeIn K (.ref cda) qual = true)
    (hcell : K.lookup cc = some ⟨cl, cld, .cell (some (.ref C)), csl⟩) (hcode : K.lookup cda = some ⟨ccl, cdd, .fields vs, ccs⟩) (hvs : vs[2]? = some (.str prog.main.file tf)) (X : K.In s.heap) (hlim : s.heap.NoLimit) (hroom : A.depth < recursionLimit) (hx : s.heap.get? x = some (excO C t0)) (hnx : K.lookup x = none)
    (hglob : s.heap.Ns mainGlobals mg) (hblt : s.heap.Ns builtinsNs mb) (hmb : mb "super" = some (.type "super"))
    (hq : ∀ h' t1 tk dx, (∀ b o, b ≠ x → s.heap.get? b = some o → h'.get? b = some o) → h'.get? x = some { cls := .ref C, dict := some dx, data := .fields #[.ref t1, .none, .none, .none, .bool false, .none] } → s.heap.objs.size ≤ dx → dx ≠ x → h'.Ns1 dx (fun y => if y = "ships" then some v else none) → R (.ok (.ret .none)) { s with heap := h', toks := tk }) : codeAny (model prog w) A (.call (.ref fI) ⟨[.ref x, v], []⟩) R s := by
  obtain ⟨nm, q', N, bs, bm, sn, sub, ab, col, dd, k0, k1, k2, k3, k5, hC, hbm⟩ := T.ox.cls
  have hcl : clsIn K C = some { name := nm, bases := bs, mro := .ref C :: bm, ns := N, qualname := q', hasDict := true, slotNames := sn, subclasses := sub, abstract := ab, collection := col, hasDel := false } := by unfold clsIn; rw [hC] <;> rfl
  obtain ⟨pl, hev⟩ := cl_ev (qual := qual) (L := s.heap.objs.size) (fI := fI) (cda := cda) (cc := cc)
  refine ks_codeAny_call_defAt (fd := ksFn "__init__" qual (defArgs (meth 10 0)) (defBody (meth 10 0)) clS .none kV doc pm an (.ref cda) ct cc) (body := [.Expr clE ⟨36, 8, 36, 60⟩, clA]) (binds := [("self", .ref x), ("ships", v)]) hroom (X _ _ hf) rfl hlim (codeRec_of X hcd) (by rw [← cl_body]) (BindsTo.of_eq rfl) cl_cells (fun y hy => by
    rcases List.mem_cons.mp hy with rfl | hy
    · exact cl_self
    · rw [List.mem_singleton.mp hy]
      exact cl_ships) (fun h0 hns hk => ?_) rfl rfl rfl
  refine ks_wpAt_execs_cons (super_row (q := qual) (scope := clS) (text := "promises cannot be kept together") (ar := { arg := "self", annotation := none, pos := ⟨35, 17, 35, 21⟩ }) (p6 := ⟨36, 8, 36, 60⟩) T.ox T.ve T.opq T.sup T.me (X.keeps hk) hns (lk_self2 (.ref x) v) (hk _ _ hx) (hglob.keeps hk) T.nomg (hblt.keeps hk) hmb hf rfl hcode hvs T.nosup hcell cl_super cl_class cl_self cl_kind cl_i cl_sw hev fun h' t1 tk k hx' => ?_)
  have X0 : K.In h0 := X.keeps hk
  have X1 : K.In h' := fun a o e => k a o (fun z => by rw [z, hnx] at e; cases e) (X0 a o e)
  have hnL : s.heap.objs.size ≠ x := Nat.ne_of_gt (Heap.lt_size hx)
  have hns1 : h'.Ns s.heap.objs.size (fun y => ([("self", Value.ref x), ("ships", v)] : List (Str × Value)).reverse.lookup y) := by
    obtain ⟨oL, es, ep, hL, r⟩ := hns
    exact ⟨oL, es, ep, k _ _ hnL hL, r⟩
  refine ks_wpAt_execs_cons (wpAt_of_wpAny (plainObj_wpAny_Assign_Attribute ?_))
  refine wpAny_Name (wpAny_loadName_local cl_kind cl_ships hns1 (v := v) (lk_ships2 (.ref x) v) (wpAny_Name (wpAny_loadName_local cl_kind cl_self hns1 (v := .ref x) (lk_self2 (.ref x) v) ?_)))
  refine set_plain X1 (ox := excO C t1) (od := none) ⟨hx', rfl, rfl, trivial⟩ T.ox.sa ?_
  refine exc_osa X1 hx' hcl (show refsVE (.ref C :: bm) = true from hbm) rfl noS (fun h3 tk3 dx k3 dn dne hx3 hn3 => ?_)
  have hsz : s.heap.objs.size ≤ h'.objs.size := Nat.le_of_lt hns1.lt
  exact wpAt_of_wpAny (wpAny_execs_nil (hq h3 t1 tk3 dx (fun b o hb e => k3 b o hb (k b o hb (hk b o e))) hx3 (Nat.le_trans hsz dn) dne hn3))
end
end TW
set_option maxHeartbeats 1000000
/-! WX3: NoWay(), Clash(ships) are made and raised. -/
namespace TW
open PySem PySem.Spec PyProof.Rows L2
open PySem.HandSPX
section
variable {X : Cx} {CN CL : Addr} {p1 p2 p3 : Pos}
theorem boot_super : bootBuiltins "super" = some (.type "super") := by decide +kernel
theorem pmk_nw {k : Nat} {qual : Str} (T : ExT X.prog X.K X.mg "NoWay" qual (meth 8 0) CN) (hr : Room k X.A) (hg : Gl X "NoWay") : L2N.PMk X (.Call (.Name "NoWay" p1) [] [] p2) (fun σ H Q => Q (.ref CN) none H) := by
  intro pins s σ H Q I h
  obtain ⟨nm, q', N, bs, bm, sn, sub, ab, col, dd, k0, k1, k2, k3, k5, hC, hbm⟩ := T.ox.cls
  obtain ⟨fI, cc, cda, oc, cl, ccl, kV, doc, pm, ct, od, cld, cdd, an, osl, csl, ccs, vs, tf, iC, tI, hf, hcd, hcell, hcode, hvs⟩ := T.ini
  refine wpAny_Call_Name_kw (ld_glob I hg T.mg_ ?_)
  refine PySem.W.callWith_K0 I.kIn T.ox.kC ?_
  have hglob := I.mod.glob.keeps I.bk
  obtain ⟨mb, hb1, hb2⟩ := I.mod.blt
  have hblt := hb1.keeps I.bk
  have hlim := I.nolimit
  show wpAny _ _ (call (.ref CN) []) _ _ _
  obtain ⟨hp, g, dr, tk, os⟩ := s
  have kk : ∀ b o, hp.get? b = some o → ((hp.push (PySem.W.kdv_tup [])).push (excO CN hp.objs.size)).get? b = some o := fun b o e => Heap.get?_push_of_some _ (Heap.get?_push_of_some _ e)
  have hget : ((hp.push (PySem.W.kdv_tup [])).push (excO CN hp.objs.size)).get? (hp.objs.size + 1) = some (excO CN hp.objs.size) := by heap_get
  refine wpAny_call (call_own F.excBase_ValueError (fun Y => refsVE_contains Y bm hbm) (I.kIn _ _ hC) (PySem.W.looks_findIn I.kIn iC) (fun self => PySem.W.bind_fn I.kIn self tI) (by show 0 ≤ sizeLine; omega) ?_)
  refine init_nw (s := ⟨(hp.push (PySem.W.kdv_tup [])).push (excO CN hp.objs.size), g, dr, tk, os⟩) T hf hcd hcell hcode hvs (I.kIn.keeps kk) (hlim.keeps kk) ?_ hget (hglob.keeps kk) (hblt.keeps kk) ((hb2 _ (by decide)).trans boot_super) fun h' t1 tk' k' hx => ?_
  · show X.A.depth + 1 < recursionLimit
    have := hr.dp
    omega
  · have old : ∀ b o, hp.get? b = some o → h'.get? b = some o := fun b o e => k' b o (Nat.ne_of_lt (Nat.lt_succ_of_lt (Heap.lt_size e))) (kk b o e)
    refine ⟨rfl, ?_⟩
    obtain ⟨G', g1, g2⟩ := restrict h' fun b => decide (b ≠ hp.objs.size + 1)
    have gk : ∀ b, b ≠ hp.objs.size + 1 → G'.get? b = h'.get? b := fun b hb => g1 b (decide_eq_true hb)
    have ge : G'.get? (hp.objs.size + 1) = none := g2 _ (by simp)
    have oldG : ∀ b o, hp.get? b = some o → G'.get? b = some o := fun b o q => (gk b (Nat.ne_of_lt (Nat.lt_succ_of_lt (Heap.lt_size q)))).trans (old b o q)
    have J : L2.Inv X pins σ H ⟨G', g, dr, tk', os⟩ := I.kept (t' := tk') oldG
    refine ⟨hp.objs.size + 1, _, _, ⟨G', g, dr, tk', os⟩, H, .ref CN, none, rfl, J, fun b o q => ?_, ge, hx, ⟨rfl, rfl, fun vs e => by cases e; rfl⟩, rfl, rfl, I.hok.fresh (Nat.le_succ _), rfl, I.bare, raises_own T.ox.exC T.ox.tyC, h⟩
    by_cases hb : b = hp.objs.size + 1
    · have q' : G'.get? b = some o := q
      rw [hb, ge] at q'
      cases q'
    · exact (gk b hb).symm.trans q
theorem raiseNW {P : Program} {K : PySem.W.Frag} {mg : Str → Option Value} {qual : Str} (T : ExT P K mg "NoWay" qual (meth 8 0) CN) : RaiseNW P K mg CN := fun X W D σ H q1 q2 q3 hP hK hm hc tk hg hr k => by
  subst hP hK hm
  exact ws_of (L2N.ps_raise hc tk (pmk_nw T hr hg)) (k none H (.refl _))
theorem relO_sh {v : V} {v' : Value} (r : RelV v v') (f : Str) : RelO (List.lookup f [(("ships" : Str), v)]) (if f = "ships" then some v' else none) := by
  by_cases hw : f = "ships"
  · subst hw
    rw [if_pos rfl]
    have q : List.lookup ("ships" : Str) [(("ships" : Str), v)] = some v := by simp [List.lookup]
    rw [q]
    exact r
  · rw [if_neg hw]
    have qw : (f == ("ships" : Str)) = false := by simpa using hw
    have q2 : List.lookup f [(("ships" : Str), v)] = none := by simp [List.lookup, qw]
    rw [q2]
    trivial
theorem pmk_cl {a : Expr} {k : Nat} {qual : Str} (T : ExT X.prog X.K X.mg "Clash" qual (meth 10 0) CL) (noS : PySem.W.findIn X.K (.ref CL) "ships" = some none) (hr : Room k X.A) (hg : Gl X "Clash") (he : starEach [a] X.env = (false, eval a X.env) :: starEach [] X.env := by rfl) :
    L2N.PMk X (.Call (.Name "Clash" p1) [a] [] p2) (fun σ H Q => WE X a σ H fun v H1 => ∀ d, H1 d = none → Q (.ref CL) (some d) (upd H1 d (.xd [("ships", v)]))) := by
  intro pins s σ H Q I h
  obtain ⟨nm, q', N, bs, bm, sn, sub, ab, col, dd, k0, k1, k2, k3, k5, hC, hbm⟩ := T.ox.cls
  obtain ⟨fI, cc, cda, oc, cl, ccl, kV, doc, pm, ct, od, cld, cdd, an, osl, csl, ccs, vs, tf, iC, tI, hf, hcd, hcell, hcode, hvs⟩ := T.ini
  refine wpAny_Call_Name_kw (ld_glob I hg T.mg_ ?_)
  have h' : tCons (WE X a) tNil σ H (fun vs H1 => ∃ v, vs = [v] ∧ ∀ d, H1 d = none → Q (.ref CL) (some d) (upd H1 d (.xd [("ships", v)]))) := fun pins s I => thn (h pins s I) fun u s1 hh => by
    obtain ⟨x, H1, I1, r, q⟩ := hh
    exact ⟨x, H1, I1, r, x, rfl, q⟩
  refine PySem.W.callWith_K (h₀ := X.base) I.ok.mod.kin T.ox.kC (thn ((pa_cons peW pa_nil he).run p2 pins s σ H _ I h') fun us s1 hh => ?_) he rfl
  obtain ⟨ws, H1, I1, r1, v, ev, q1⟩ := hh
  subst ev
  refine ⟨I1.kIn, ?_⟩
  cases r1 with
  | cons rv rn =>
    rename_i v' us'
    cases rn
    have hglob := I1.mod.glob.keeps I1.bk
    obtain ⟨mb, hb1, hb2⟩ := I1.mod.blt
    have hblt := hb1.keeps I1.bk
    have hlim := I1.nolimit
    show wpAny _ _ (call (.ref CL) [v']) _ _ _
    obtain ⟨hp, g, dr, tk, os⟩ := s1
    have kk : ∀ b o, hp.get? b = some o → ((hp.push (PySem.W.kdv_tup [v'])).push (excO CL hp.objs.size)).get? b = some o := fun b o e => Heap.get?_push_of_some _ (Heap.get?_push_of_some _ e)
    have hget : ((hp.push (PySem.W.kdv_tup [v'])).push (excO CL hp.objs.size)).get? (hp.objs.size + 1) = some (excO CL hp.objs.size) := by heap_get
    have hnx : X.K.lookup (hp.objs.size + 1) = none := by
      cases hk : X.K.lookup (hp.objs.size + 1) with
      | none => rfl
      | some o => exact absurd (Heap.lt_size (I1.kIn _ _ hk)) (show ¬ (hp.objs.size + 1 < hp.objs.size) by omega)
    refine wpAny_call (call_own F.excBase_ValueError (fun Y => refsVE_contains Y bm hbm) (I1.kIn _ _ hC) (PySem.W.looks_findIn I1.kIn iC) (fun self => PySem.W.bind_fn I1.kIn self tI) (by show 1 ≤ sizeLine; decide) ?_)
    refine init_cl (s := ⟨(hp.push (PySem.W.kdv_tup [v'])).push (excO CL hp.objs.size), g, dr, tk, os⟩) T noS hf hcd hcell hcode hvs (I1.kIn.keeps kk) (hlim.keeps kk) ?_ hget hnx (hglob.keeps kk) (hblt.keeps kk) ((hb2 _ (by decide)).trans boot_super) fun h' t1 tk' d k' hx dbig dne hns => ?_
    · show X.A.depth + 1 < recursionLimit
      have := hr.dp
      omega
    · have old : ∀ b o, hp.get? b = some o → h'.get? b = some o := fun b o e => k' b o (Nat.ne_of_lt (Nat.lt_succ_of_lt (Heap.lt_size e))) (kk b o e)
      have dbig' : hp.objs.size ≤ d := by
        have e1 : ((hp.push (PySem.W.kdv_tup [v'])).push (excO CL hp.objs.size)).objs.size = hp.objs.size + 2 := by simp [Heap.push]
        have : ((hp.push (PySem.W.kdv_tup [v'])).push (excO CL hp.objs.size)).objs.size ≤ d := dbig
        omega
      refine ⟨rfl, ?_⟩
      obtain ⟨G', g1, g2⟩ := restrict h' fun b => decide (b ≠ hp.objs.size + 1)
      have gk : ∀ b, b ≠ hp.objs.size + 1 → G'.get? b = h'.get? b := fun b hb => g1 b (decide_eq_true hb)
      have ge : G'.get? (hp.objs.size + 1) = none := g2 _ (by simp)
      have oldG : ∀ b o, hp.get? b = some o → G'.get? b = some o := fun b o q => (gk b (Nat.ne_of_lt (Nat.lt_succ_of_lt (Heap.lt_size q)))).trans (old b o q)
      have ob : ObjOk X.prog X.w (upd H1 d (.xd [(("ships" : Str), v)])) G' d (.xd [(("ships" : Str), v)]) :=
        ⟨_, hns.at (fun o q => (gk d dne).trans q), fun f => relO_sh rv f⟩
      have J : L2.Inv X pins σ (upd H1 d (.xd [(("ships" : Str), v)])) ⟨G', g, dr, tk', os⟩ := I1.laid (t' := tk') oldG dbig' ob
      refine ⟨hp.objs.size + 1, _, _, ⟨G', g, dr, tk', os⟩, _, .ref CL, some d, rfl, J, fun b o q => ?_, ge, hx, ⟨rfl, rfl, fun vs e => by cases e; rfl⟩, rfl, rfl, ?_, rfl, I1.bare, raises_own T.ox.exC T.ox.tyC, q1 d (I1.hok.fresh dbig')⟩
      · by_cases hb : b = hp.objs.size + 1
        · have q' : G'.get? b = some o := q
          rw [hb, ge] at q'
          cases q'
        · exact (gk b hb).symm.trans q
      · rw [upd_ne (Ne.symm dne)]
        exact I1.hok.fresh (Nat.le_succ _)
end
end TW
/-! WY: a method with arguments on a frozen cell; Console._check_name. -/
namespace TW
open PySem PySem.Spec PyProof.Rows L2
section
variable {X : Cx} {o e : Expr} {es : List Expr} {σ : L2.St} {B H : Hp} {P1 P : Hp → V → Prop} {PL : Hp → List V → Prop} {apos pos epos : Pos} {k : Nat} {C CS : Addr} {m : Str} {ps : List Str} {α : Type} {A : α → Hp → List V → Prop} {R : α → Hp → V → Prop} {pl : Sem Bool} {D : Ends}
theorem x_methA [Mono P1] [MonoL PL] (y : α) (G : MtOk X.prog X.w X.K X.mg X.base CX0 k C m ps (SpP A R)) (cl : Cls X.K C) (hr : Room k X.A) (ho : XE X o σ B P1) (ha : XA X (e :: es) σ B PL)
    (hi : ∀ C' v, Same B C' → P1 C' v → ∃ a dx fs, v = .ref a ∧ C' a = some (.ins C dx fs) ∧ fs.lookup m = none) (hA : ∀ C' v vs, Same B C' → P1 C' v → PL C' vs → A y C' (v :: vs))
    (hst : starEach (e :: es) X.env = (false, eval e X.env) :: starEach es X.env := by rfl) (hpl : (backTo pos (starEach es X.env)).any (·.1) = false := by rfl)
    (ht : eval (.Call (.Attribute o m apos) (e :: es) [] pos) X.env = (do
      let ov ← eval o X.env
      standAt apos.atName
      let (f, first) ← holding [ov] (getMethod ov m pl)
      callWith pos f first (backTo pos (starEach (e :: es) X.env)) (backToKw pos (keywordEach [] X.env))) := by rfl) : XE X (.Call (.Attribute o m apos) (e :: es) [] pos) σ B (R y) := fun H s Q k' => by
  obtain ⟨f, fd, F, hm, hb⟩ := G.ex
  refine we_of (pe_meth (E := E0) (pl := pl) peW cl hm F hr hb .nil pass0 paW hst hpl ht) (ho H s _ fun v B1 H1 g1 p1 => ?_)
  obtain ⟨a, dx, fs, rfl, h1, h2⟩ := hi B1 v g1.bb p1
  refine ⟨a, dx, fs, rfl, g1.bh _ _ h1, h2, ?_⟩
  refine ha.up g1.bb H1 g1.bh _ fun vs B2 H2 g2 p2 => ?_
  exact ⟨y, B2, g2.bh, by rw [List.append_nil]; exact hA B2 _ vs (g1.bb.trans g2.bb) (Mono.up g2.bb p1) p2, fun v B3 H3 g3 p3 => k' v B3 H3 ((g1.trans g2).trans g3) p3⟩
/-- a row that is an expression, at one heap -/
theorem ws_exprA (h : XEat X e σ B H P) (k : ∀ v B' H', Gr B H B' H' → P B' v → D.nx σ H') (hs : swapsWith e none epos.line X.env = pure false := by rfl) : WS X (.Expr e epos) D σ H :=
  ws_of (ps_expr peW hs) (h _ k)
end
section
variable {P : Program} {w : World} {K : PySem.W.Frag} {mg : Str → Option Value} {base : Heap} {CS CC CN : Addr}
def ANm (K : PySem.W.Frag) (CS CC : Addr) (z : StD × Int) (B : Hp) (vs : List V) : Prop := inB z.2 0 ((z.1.ships.length : Int) - 1) = true ∧ ∃ v v2, vs = [v, v2] ∧ IsCon K CS CC z.1 B v ∧ Dq K B v2 (.int z.2)
theorem mt_check (T : Txt K mg) (C : TxtCon K mg CC) (S : TxtS K mg CS) : MtOk P w K mg base CX0 2 CC "_check_name" ["self", "ship"] (SpP (ANm K CS CC) fun _ _ v => v = .non) := by
  obtain ⟨f, fd, hm, F⟩ := C.m_check
  refine ⟨f, fd, fn_ofM F sc52_3 (fun y B vs h => by obtain ⟨_, v, v2, rfl, _⟩ := h; rfl) fun f cdv A0 outer s H vs E y B Q hr sb ha q => ?_, hm, F.binds fun _ _ _ _ _ _ us hl => match us, hl with | [_, _], _ => rfl⟩
  obtain ⟨hn, v1, v2, rfl, r1, r2⟩ := ha
  have el : ((y.1.ships.map eShip).length : Int) = (y.1.ships.length : Int) := by rw [List.length_map]
  rw [← el] at hn
  refine ws_one (ws_if (t := !inB y.2 0 (((y.1.ships.map eShip).length : Int) - 1)) (xt_not (xt_v (x_call (y := (y.2, 0, ((y.1.ships.map eShip).length : Int) - 1)) (dn13 T) hr rfl (xd_cons (x_var 1 rfl r2) (xd_cons x_int (xd_cons (x_sub (x_lenL rfl T.b_len (x_stS S (x_cst C hr (x_var (P := IsCon K CS CC y.1) 0 rfl r1)))) x_int) xd_nil)))))) sb (fun h => ?_) fun _ B2 H2 g2 => ?_)
  · rw [hn] at h
    cases h
  · exact ws_nil (q .non B2 H2 g2 rfl)
end
end TW
/-! WY2: Console.promise. -/
namespace TW
open PySem PySem.Spec PyProof.Rows L2
theorem c_notNC {X : Cx} {o : Option (List Int)} : CmpOk X .IsNot (eClash o) .none o.isSome := by
  cases o with
  | none => exact c_notN (d1 := .none)
  | some l => exact c_notN (d1 := eInts l)
def prTo (y : StD) (ship : Nat) (hour : Int) : Lat := y.pr.zipIdx.map fun p => if (p.2 : Int) = (ship : Int) then some hour else p.1
def prSt (y : StD) (ship : Nat) (hour : Int) : StD := mkSt (y.h, y.ships, y.here, y.done, prTo y ship hour)
def prCl (y : StD) (ship : Nat) (hour : Int) : Option (List Int) := clashOf y.h y.ships y.here (prTo y ship hour) (ship : Int)
structure PrOk (y : StD) (ship : Nat) (hour : Int) : Prop where
  wd : Wd y.h y.ships
  st : Stt y.h y.ships y.here
  pl : y.pr.length = y.ships.length
  sh : ship < y.ships.length
  hr : inB hour 0 100 = true
  no : y.pr[ship]? = some none
  at' : plAt y.here ship ≠ GONE
  po : PlanOk y
  ot : (othersOf (prTo y ship hour) (ship : Int)).length ≤ 1
  ok : prCl y ship hour = none → hasWay y.h y.ships y.here (prTo y ship hour) = true ∧ PlanOk (prSt y ship hour)
theorem prTo_len (y : StD) (ship : Nat) (hour : Int) : (prTo y ship hour).length = y.pr.length := by
  unfold prTo
  rw [List.length_map, List.length_zipIdx]
def SpPr (K : PySem.W.Frag) (CS CC CL : Addr) : Sp := fun vs H Q E => ∃ (y : StD) (n ship : Nat) (hour : Int) (B : Hp) (c dx : Addr) (v2 v3 : V),
  OwnCon K CS CC B (dropA H c) c dx y n B H ∧ vs = [.ref c, v2, v3] ∧ Dq K B v2 (.int (ship : Int)) ∧ Dq K B v3 (.int hour) ∧ PrOk y ship hour ∧ n < 100 ∧
  (prCl y ship hour = none → ∀ v B' H', OwnCon K CS CC B (dropA H c) c dx (prSt y ship hour) (n + 1) B' H' → Q v H') ∧
  (∀ l, prCl y ship hour = some l → ∀ d v B' H', OwnCon K CS CC B (dropA H c) c dx y n B' H' → Dq K B' v (eInts l) → H' d = some (.xd [("ships", v)]) → E (.ref CL) (some d) H')
section
variable {P : Program} {w : World} {K : PySem.W.Frag} {mg : Str → Option Value} {base : Heap} {CS CC CN CL : Addr}
theorem mt_promise {qual : Str} (T : Txt K mg) (S : TxtS K mg CS) (C : TxtCon K mg CC) (NW : RaiseNW P K mg CN) (TC : ExT P K mg "Clash" qual (meth 10 0) CL) (noS : PySem.W.findIn K (.ref CL) "ships" = some none) (ne : CS ≠ CC) : MtOk P w K mg base (L2N.CX P w) 10 CC "promise" ["self", "ship", "hour"] (SpPr K CS CC CL) := by
  obtain ⟨f, fd, hm, F⟩ := C.m_promise
  refine ⟨f, fd, Fun.okN F sc52_6 (fun vs H Q E h => by
    obtain ⟨_, _, _, _, _, _, _, _, _, _, rfl, _⟩ := h
    rfl) fun cdv A0 outer s H vs Q E hr h => ⟨_, pssW, ?_⟩, hm, F.binds fun _ _ _ _ _ _ us hl => match us, hl with | [_, _, _], _ => rfl⟩
  obtain ⟨y, n, ship, hour, B, c, dx, hv2, hv3, ⟨sv, ev, a, ck⟩, rfl, r2, r3, ok, hn, qok, qno⟩ := h
  have hda : (dropA H c) c = none := dropA_at _ _
  have sN : Same B (upd B c (.ins CC dx (cF sv n ev))) := same_new a.lo
  have hsn := ok.wd.sn
  have hpl := ok.pl
  have hsh := ok.sh
  have hstp := ok.st.pl
  refine ws_cons (ws_setA (P := IsSt K CS y) 3 (con_at a (P := IsSt K CS y) (x_cst C (hr.mono (by decide)) (XE.imp (P1 := Is (.ref c)) (x_is (i := 0) rfl) fun C' v s p => ⟨c, dx, sv, ev, n, p, s _ _ upd_same, ck.up (sN.trans s)⟩)) fun B' v hc p => IsSt.drop ne hc p) (fun u B1 H1 g1 p1 => ?_) sc52_6.nd)
  have a1 := a.step g1
  have ck1 := ck.up g1.bb
  have r21 := Dq.up g1.bb _ _ r2
  have r31 := Dq.up g1.bb _ _ r3
  have sN1 : Same B1 (upd B1 c (.ins CC dx (cF sv n ev))) := same_new a1.lo
  refine ws_cons (ws_exprA (P := fun _ v => v = V.non) (con_at a1 (P := fun _ v => v = V.non) (x_methA (P1 := IsCon K CS CC y) (y, (ship : Int)) (mt_check T C S) C.cls (hr.mono (by decide)) (XE.imp (P1 := Is (.ref c)) (x_is (i := 0) rfl) fun C' v s p => ⟨c, dx, sv, ev, n, p, s _ _ upd_same, ck1.up (sN1.trans s)⟩)
    (xp_cons (P := DD K (.int (ship : Int))) (x_var 1 rfl (Dq.up sN1 _ _ r21)) xp_nil) (fun C' v _ p => con_cell p "_check_name" fun _ _ _ => rfl) fun C' v vs _ p q => ?_) fun _ _ _ p => p) fun v B2 H2 g2 p2 => ?_)
  · obtain ⟨v2, r, rfl, q1, rfl⟩ := q
    refine ⟨?_, v, v2, rfl, p, q1⟩
    show inB (ship : Int) 0 ((y.ships.length : Int) - 1) = true
    unfold inB
    simp only [Bool.and_eq_true, decide_eq_true_eq]
    omega
  · have a2 := a1.step g2
    have ck2 := ck1.up g2.bb
    have r22 := Dq.up g2.bb _ _ r21
    have r32 := Dq.up g2.bb _ _ r31
    have p2u := Mono.up (P := IsSt K CS y) g2.bb p1
    refine ws_cons (ws_if (t := !inB hour 0 100) (xt_not (xt_v (x_call (y := (hour, 0, 100)) (dn13 T) (hr.mono (by decide)) rfl (xd_cons (x_var 2 rfl r32) (xd_cons x_int (xd_cons x_int xd_nil)))))) a2.bh (fun h => ?_) fun _ B3 H3 g3 => ?_)
    · rw [ok.hr] at h
      cases h
    · have a3 := a2.step g3
      have ck3 := ck2.up g3.bb
      have r23 := Dq.up g3.bb _ _ r22
      have r33 := Dq.up g3.bb _ _ r32
      have p3 := Mono.up (P := IsSt K CS y) g3.bb p2u
      have hix : atI (y.pr.map eOpt) (ship : Int) = some (eOpt none) := atI_nn (by omega) (by rw [Int.toNat_natCast, List.getElem?_map, ok.no]; rfl)
      have hpa : atI (y.here.2.map ePair) (ship : Int) = some (ePair (plAt y.here ship)) := plAt_eq (by omega)
      refine ws_nil (ws_cons (ws_if (t := (none : Option Int).isSome || decide (plAt y.here ship = GONE)) (xt_w (xw_or (xt_cmp c_notNO (x_ixL (x_stP S (x_var (P := IsSt K CS y) 3 rfl p3)) (x_var 1 rfl r23) hix) x_non) fun _ => xw_or1 (xt_cmp (c_eqP (un64 hr)) (x_ixT (x_ixT (x_stE S (x_var (P := IsSt K CS y) 3 rfl p3)) x_int rfl) (x_var 1 rfl r23) hpa) (x_con T.c_GONE_console rfl)))) a3.bh (fun h => ?_) fun _ B4 H4 g4 => ?_))
      · exact absurd (by simpa using h) ok.at'
      · have a4 := a3.step g4
        have ck4 := ck3.up g4.bb
        have r24 := Dq.up g4.bb _ _ r23
        have r34 := Dq.up g4.bb _ _ r33
        have p4 := Mono.up (P := IsSt K CS y) g4.bb p3
        refine ws_nil (ws_cons (ws_setLc (l := y.pr.zipIdx) (enc := fun p => .tuple [.int (p.2 : Int), eOpt p.1]) (enc' := eOpt) (own := o52_6_0) 4 ?_ (fun p => some (if (p.2 : Int) = (ship : Int) then some hour else p.1)) ?_ a4.bh (fun pv B5 H5 g5 p5 => ?_) (by rw [List.length_zipIdx, line_big]; omega) rfl sc52_6.nd bk52_6_0 rfl))
        · rw [← enD_map]
          exact xi_enum rfl T.b_enumerate (x_stP S (x_var (P := IsSt K CS y) 3 rfl p4))
        · intro i t v B' ea sb' hd
          obtain ⟨l, u1, u2, rfl, hq, q1, q2⟩ := tup2 hd
          apply lc_map
          · rintro XB ⟨_, _, _, _, _, rfl⟩
            refine ⟨xg_tup rfl hq (xgs_cons (xg_name 6 sc52_6.nd) (xgs_cons (xg_name 7 sc52_6.nd) xgs_nil)), ?_⟩
            refine x_if (t := decide ((t.2 : Int) = (ship : Int))) (xt_cmp (c_eqI (un64 hr)) (x_var 6 rfl q1) (x_var 1 rfl (Dq.up sb' _ _ r24))) (fun hc => ?_) fun hc => ?_
            · rw [if_pos (of_decide_eq_true hc)]
              exact x_var 2 rfl (Dq.up sb' _ _ r34)
            · rw [if_neg (of_decide_eq_false hc)]
              exact x_var 7 rfl q2
          · rfl
        · rw [fm_map] at p5
          have p5' : Dq K B5 pv (eProm (prTo y ship hour)) := p5
          have a5 := a4.step g5
          have ck5 := ck4.up g5.bb
          have r25 := Dq.up g5.bb _ _ r24
          have r35 := Dq.up g5.bb _ _ r34
          have u5 := Mono.up (P := IsSt K CS y) g5.bb p4
          have plen : (prTo y ship hour).length = y.ships.length := by rw [prTo_len, hpl]
          refine ws_cons (ws_set (P := DD K (eClash (prCl y ship hour))) 5 (x_call (y := (y.h, y.ships, y.here, prTo y ship hour, (ship : Int))) (dn49 T) (hr.mono (by decide)) rfl (XA.imp (P := DDs K [eHarb y.h, eShips y.ships, eSta y.here, eProm (prTo y ship hour), .int (ship : Int)]) (xd_cons (x_stH S (x_var (P := IsSt K CS y) 3 rfl u5)) (xd_cons (x_stS S (x_var (P := IsSt K CS y) 3 rfl u5)) (xd_cons (x_stE S (x_var (P := IsSt K CS y) 3 rfl u5)) (xd_cons (x_var 4 rfl p5') (xd_cons (x_var 1 rfl r25) xd_nil))))) fun C' vs _ q => ⟨⟨ok.wd, ok.st, plen, ok.ot⟩, q⟩)) a5.bh (fun cv B6 H6 g6 p6 => ?_) (hN := sc52_6.nd))
          have a6 := a5.step g6
          have ck6 := ck5.up g6.bb
          have r26 := Dq.up g6.bb _ _ r25
          have r36 := Dq.up g6.bb _ _ r35
          have u6 := Mono.up (P := IsSt K CS y) g6.bb u5
          have p56 := Dq.up g6.bb _ _ p5'
          refine ws_cons (ws_if (t := (prCl y ship hour).isSome) (xt_cmp c_notNC (x_var 5 rfl p6) x_non) a6.bh (fun hc B7 H7 g7 => ?_) fun hc B7 H7 g7 => ?_)
          · obtain ⟨l, hl⟩ := Option.isSome_iff_exists.mp hc
            rw [hl] at p6
            have a7 := a6.step g7
            refine ws_one (ws_of (L2N.ps_raise (W := fun cls d _ H => E cls d H) rfl (L2N.takes_of rfl rfl rfl rfl) (pmk_cl (k := 3) TC noS (hr.mono (by decide)) rfl)) ?_)
            refine (x_var (P := DD K (eInts l)) 5 rfl (Dq.up g7.bb _ _ p6)) H7 g7.bh _ fun v8 B8 H8 g8 p8 d hd => ?_
            have a8 := a7.step g8
            exact qno l hl d v8 B8 _ ⟨sv, ev, a8.step (Gr.newH g8.bh hd), (ck6.up g7.bb).up g8.bb⟩ p8 upd_same
          · have hcn : prCl y ship hour = none := by
              cases hp : prCl y ship hour with
              | none => rfl
              | some l => rw [hp] at hc; cases hc
            obtain ⟨hw, hpo⟩ := ok.ok hcn
            have a7 := a6.step g7
            have ck7 := ck6.up g7.bb
            have u7 := Mono.up (P := IsSt K CS y) g7.bb u6
            have p57 := Dq.up g7.bb _ _ p56
            have r27 := Dq.up g7.bb _ _ r26
            have r37 := Dq.up g7.bb _ _ r36
            refine ws_nil (ws_cons (ws_enter (K := K) (y' := prSt y ship hour) (d := .tuple [.str "promise", .int (ship : Int), .int hour]) rfl C (mt_enter C) (hr.mono (by decide)) a7 hda ck7 hn (fun C' _ => x_is (i := 0) rfl) ?_ ?_ fun sv' ev' B8 H8 s8 a8 ck8 => ?_))
            · exact x_mkSt (CN := CN) (y := (y.h, y.ships, y.here, y.done, prTo y ship hour)) (stMk T S NW) (hr.mono (by decide)) rfl (XA.imp (P := DDs K [eHarb y.h, eShips y.ships, eSta y.here, eTrips y.done, eProm (prTo y ship hour)]) (xd_cons (x_stH S (x_var (P := IsSt K CS y) 3 rfl u7)) (xd_cons (x_stS S (x_var (P := IsSt K CS y) 3 rfl u7)) (xd_cons (x_stE S (x_var (P := IsSt K CS y) 3 rfl u7)) (xd_cons (x_stD S (x_var (P := IsSt K CS y) 3 rfl u7)) (xd_cons (x_var 4 rfl p57) xd_nil))))) fun C' vs _ q => ⟨⟨ok.wd, ok.st, plen⟩, q⟩) hw
            · exact x_tup (xd_cons x_str (xd_cons (x_var 1 rfl r27) (xd_cons (x_var 2 rfl r37) xd_nil)))
            · have u8 := Mono.up (P := IsSt K CS y) s8 u7
              have sN8 : Same B8 (upd B8 c (.ins CC dx (cF sv' (n + 1) ev'))) := same_new a8.lo
              have hI : ∀ C', Same (upd B8 c (.ins CC dx (cF sv' (n + 1) ev'))) C' → IsSt K CS y C' u := fun C' s => Mono.up (P := IsSt K CS y) (sN8.trans s) u8
              refine ws_one (ws_of (ps_ret peW) ((con_at a8 (P := DD K (.int (costOf y.ships (planOf y.ships ((prSt y ship hour).done ++ (prSt y ship hour).way)) - costOf y.ships (planOf y.ships (y.done ++ y.way))))) (P2 := fun _ _ => True)
                (x_sub (x_meth0 (P1 := IsSt K CS (prSt y ship hour)) (prSt y ship hour) (mt_cost T S) S.cls (hr.mono (by decide)) (x_cst C (hr.mono (by decide)) (XE.imp (P1 := Is (.ref c)) (x_is (i := 0) rfl) fun C' v s p => ⟨c, dx, sv', ev', n + 1, p, s _ _ upd_same, ck8.up (sN8.trans s)⟩)) (fun C' v _ p => ⟨st_cell p "cost_now" (fun _ _ _ _ _ _ => rfl), hpo, v, rfl, p⟩))
                  (x_meth0 (P1 := IsSt K CS y) y (mt_cost T S) S.cls (hr.mono (by decide)) (x_var (P := IsSt K CS y) 3 rfl (hI _ (.refl _))) (fun C' v _ p => ⟨st_cell p "cost_now" (fun _ _ _ _ _ _ => rfl), ok.po, v, rfl, p⟩))) fun _ _ _ _ => trivial) _ fun v B9 H9 g9 p9 => ?_))
              exact qok hcn v B9 H9 ⟨sv', ev', a8.step g9, ck8.up g9.bb⟩
end
end TW
/-! WY3: Console.__init__. -/
namespace TW
open PySem PySem.Spec PyProof.Rows L2
theorem x_lst0V {X : Cx} {σ : L2.St} {B : Hp} {pos : Pos} : XE X (.List [] pos) σ B (IsLs []) := fun H s Q k => by
  refine we_of (pe_lst pa_nil) ?_
  exact ⟨Nat.zero_le _, fun p hp => k _ _ _ (.new s hp) ⟨p, rfl, upd_same⟩⟩
structure NewOk (h : Harb) (ships : List Ship) : Prop where
  lh : LegalH h
  ls : LegalS ships
  wd : Wd h ships
def noPr (ships : List Ship) : Lat := ships.map fun _ => none
def conSt (h : Harb) (ships : List Ship) : StD := mkSt (h, ships, beginOf ships, [], noPr ships)
theorem begin_stt {h : Harb} {ships : List Ship} (w : Wd h ships) : Stt h ships (beginOf ships) := by
  have := w.la
  refine ⟨by unfold beginOf; rw [List.length_map], fun p hp => ?_, by unfold beginOf; simp, by unfold beginOf; simp; omega⟩
  unfold beginOf at hp
  obtain ⟨s, _, rfl⟩ := List.mem_map.mp hp
  decide
def SpInitC (K : PySem.W.Frag) (CS CC CN : Addr) : Sp := fun vs H Q E => ∃ (h : Harb) (ships : List Ship) (B : Hp) (a dx : Addr) (hv sv : V), Same B H ∧ B a = none ∧ H a = some (.ins CC dx []) ∧ vs = [.ref a, hv, sv] ∧ NewOk h ships ∧ Dq K B hv (eHarb h) ∧ Dq K B sv (eShips ships) ∧
  (hasWay h ships (beginOf ships) (noPr ships) = true → ∀ B' H', OwnCon K CS CC B (dropA H a) a dx (conSt h ships) 0 B' H' → Q .non H') ∧
  (hasWay h ships (beginOf ships) (noPr ships) = false → ∀ d H', Same (dropA H a) H' → E (.ref CN) d H')
section
variable {P : Program} {w : World} {K : PySem.W.Frag} {mg : Str → Option Value} {base : Heap} {CS CC CN : Addr}
theorem fn_conInit (T : Txt K mg) (S : TxtS K mg CS) (C : TxtCon K mg CC) (NW : RaiseNW P K mg CN) {f : Addr} {fd : FuncData} (F : Fun K "__init__" "Console.__init__" (meth 52 0) f fd) : FnOk P w K mg base (L2N.CX P w) 10 f fd ["self", "harbour", "ships"] (SpInitC K CS CC CN) := by
  refine Fun.okN F sc52_0 (fun vs H Q E h => ?_) fun cdv A0 outer s H vs Q E hr h => ⟨_, pssW, ?_⟩
  · obtain ⟨_, _, _, _, _, _, _, _, _, _, rfl, _⟩ := h
    rfl
  · obtain ⟨hd, ships, B, a, dx, hv, sv, sB, hBa, hHa, rfl, ok, r1, r2, qok, qno⟩ := h
    have c0 : Cell B (dropA H a) a CC dx [] B H := ⟨Gr.takeOut sB hBa, hBa, hHa⟩
    have hda : (dropA H a) a = none := dropA_at _ _
    have hsn := ok.wd.sn
    have hb1 := ok.lh.d1
    have hb2 := ok.lh.b1
    refine ws_cons (ws_expr (P := DD K .none) (x_call (y := hd) (dn15 T) (hr.mono (by decide)) rfl (XA.imp (P := DDs K [eHarb hd]) (xd_cons (x_var 1 rfl r1) xd_nil) fun C' vs _ q => ⟨ok.lh, q⟩)) sB fun _ B1 H1 g1 _ => ?_)
    refine ws_cons (ws_expr (P := DD K .none) (x_call (y := ships) (dn16 T) (hr.mono (by decide)) rfl (XA.imp (P := DDs K [eShips ships]) (xd_cons (x_var 2 rfl (Dq.up g1.bb _ _ r2)) xd_nil) fun C' vs _ q => ⟨ok.ls, q⟩)) g1.bh fun _ B2 H2 g2 _ => ?_)
    have s12 := g1.bb.trans g2.bb
    refine ws_cons (ws_star 3 4 5 (d1 := eInts hd.depths) (d2 := eInts hd.berths) (ds := [.int hd.tugs, .int hd.pilots, .int hd.last]) (x_var 1 rfl (Dq.up s12 _ _ r1)) g2.bh (by simp) rfl sc52_0.nd fun v1 v2 F3 B3 H3 g3 q1 q2 q3 => ?_)
    refine ws_cons (ws_set (P := DD K (eHarb hd)) 6 (x_tup (ds := [eInts hd.depths, eInts hd.berths, .int hd.tugs, .int hd.pilots, .int hd.last]) (xd_cons (d := eInts hd.depths) ?_ (xd_cons (d := eInts hd.berths) ?_ (xd_star (ds := [.int hd.tugs, .int hd.pilots, .int hd.last]) (x_var 5 rfl q3) (.inl rfl) xd_nil)))) g3.bh (fun ov B4 H4 g4 p4 => ?_) (hN := sc52_0.nd))
    · have e : eInts hd.depths = .list (hd.depths.map .int ++ []) := by rw [List.append_nil]; rfl
      rw [e]
      exact x_lst (xd_star (x_var 3 rfl q1) (.inl rfl) xd_nil) (by rw [List.append_nil, List.length_map, line_big]; omega)
    · have e : eInts hd.berths = .list (hd.berths.map .int ++ []) := by rw [List.append_nil]; rfl
      rw [e]
      exact x_lst (xd_star (x_var 4 rfl q2) (.inl rfl) xd_nil) (by rw [List.append_nil, List.length_map, line_big]; omega)
    · have s34 := g3.bb.trans g4.bb
      have s14 := s12.trans s34
      have c4 : Cell B (dropA H a) a CC dx [] B4 H4 := (((c0.step g1).step g2).step g3).step g4
      have r24 := Dq.up s14 _ _ r2
      refine ws_cons (ws_of (ps_fld peW peW rfl) ?_)
      refine we_of (pe_lst (pa_cons peW pa_nil)) ?_
      refine we_mkSt (E := E) (CN := CN) (B := B4) (y := (hd, ships, beginOf ships, [], noPr ships)) (L2N.passes_call (L2N.takes_of rfl rfl rfl rfl) fun _ _ _ _ h => h) (stMk T S NW) (hr.mono (by decide)) rfl
        (XA.imp (P := DDs K [eHarb hd, eShips ships, eSta (beginOf ships), eTrips [], eProm (noPr ships)]) (xd_cons (x_var 6 rfl p4) (xd_cons (d := eShips ships) ?_ (xd_cons (x_call (y := ships) (dn23 T) (hr.mono (by decide)) rfl (XA.imp (P := DDs K [eShips ships]) (xd_cons (x_var 2 rfl r24) xd_nil) fun C' vs _ q => ⟨by show ships.length < 100; omega, q⟩)) (xd_cons (d := eTrips []) (x_lst xd_nil (Nat.zero_le _)) (xd_cons (d := eProm (noPr ships)) ?_ xd_nil))))) fun C' vs _ q => ⟨⟨ok.wd, begin_stt ok.wd, by show (noPr ships).length = ships.length; unfold noPr; rw [List.length_map]⟩, q⟩) c4.bh (fun hw v B5 H5 g5 p5 => ?_) fun hf d H' s' => ?_
      · have e : eShips ships = .list (ships.map eShip ++ []) := by rw [List.append_nil]; rfl
        rw [e]
        exact x_lst (xd_star (x_var 2 rfl r24) (.inl rfl) xd_nil) (by rw [List.append_nil, List.length_map, line_big]; omega)
      · refine x_lcM (l := ships) (enc := eShip) (enc' := eOpt) (own := o52_0_0) (fun _ : Ship => (none : Option Int)) (xi_list (x_var 2 rfl r24)) ?_ (by rw [line_big]; omega) rfl sc52_0.nd bk52_0_0
        intro i t v B' ea sb' hd
        apply lc_map (f := fun _ : Ship => (none : Option Int)) (a := t) (enc' := eOpt)
        · rintro XB ⟨_, _, _, _, _, rfl⟩
          exact ⟨xg_name 7 sc52_0.nd, x_non⟩
        · rfl
      · refine ⟨by show 1 ≤ sizeLine; decide, fun p hp => ?_⟩
        have c5 := c4.step g5
        have gp : Gr B5 H5 (upd B5 p (.lst [v])) (upd H5 p (.lst [v])) := .new g5.bh hp
        have c6 := c5.step gp
        have hls : IsLs [v] (upd B5 p (.lst [v])) (.ref p) := ⟨p, rfl, upd_same⟩
        have p6 := Mono.up (P := IsSt K CS _) gp.bb p5
        refine (x_is (v := .ref a) (i := 0) rfl) _ c6.bh _ fun u B7 H7 g7 p7 => ?_
        obtain rfl : u = .ref a := p7
        have c7 := c6.step g7
        refine ⟨a, CC, dx, [], rfl, c7.at', C.cls, C.no "_states" (by decide), by decide, ?_⟩
        have c8 : Cell B (dropA H a) a CC dx (putF "_states" (.ref p) []) B7 (upd H7 a (.ins CC dx (putF "_states" (.ref p) []))) := c7.put hda
        refine ws_cons (ws_cellPut (P := DD K (.int 0)) c8 hda (XE.at x_int c8.bh) (fun C' _ => x_is (i := 0) rfl) C.cls (C.no "_at" (by decide)) (Nat.le_of_ble_eq_true rfl) fun u1 B8 H8 s8 e8 c9 => ?_)
        obtain rfl := Dq.int_v e8
        refine ws_one (ws_cellPut (P := IsLs []) c9 hda ?_ (fun C' _ => x_is (i := 0) rfl) C.cls (C.no "_entries" (by decide)) (Nat.le_of_ble_eq_true rfl) fun ev B9 H9 s9 e9 c10 => ?_)
        · exact XE.at x_lst0V c9.bh
        · have s79 := s8.trans s9
          refine qok hw B9 H9 ⟨.ref p, ev, c10, [v], [], v, Mono.up (P := IsLs [v]) (g7.bb.trans s79) hls, rfl, rfl, Mono.up (P := IsSt K CS _) (g7.bb.trans s79) p6, e9, Nat.le_refl _, by decide⟩
      · exact qno hf d H' ((c4.gr.hh).trans s')
end
end TW
/-! WY4: a Console is made, where what is wished of exceptions hangs on the slots. -/
namespace TW
open PySem PySem.Spec PyProof.Rows L2
section
variable {X : Cx} {CX : CXT} {k : Nat} {f C : Addr} {fd : FuncData} {ps : List Str} {sp : Sp} {E : L2.St → XK} {x : Str} {p pos : Pos} {e : Expr} {es : List Expr} {t : TA}
def tMakeS (C : Addr) (sp : Sp) (E : L2.St → XK) (t : TA) : TE := fun σ H Q => t σ H fun vs H1 => ∀ x dx, H1 x = none → H1 dx = none → dx ≠ x →
  sp (.ref x :: vs) (upd (upd H1 dx (.own x)) x (.ins C dx [])) (fun v H2 => v = .non ∧ Q (.ref x) H2) (E σ)
theorem pe_makeS (M : Mk X.K C f) (F : FnOk X.prog X.w X.K X.mg X.base CX k f fd ps sp) (hr : Room (k + 1) X.A) (hg : Gl X x) (hm : X.mg x = some (.ref C)) (hb : Binds X.K fd ps []) (hx : ∀ σ, PassesAt CX X σ (E σ))
    (ha : PA X (e :: es) t) (hdb : (x == ("__debug__" : Str)) = false := by decide) (he : starEach (e :: es) X.env = (false, eval e X.env) :: starEach es X.env := by rfl) (hpl : (backTo pos (starEach es X.env)).any (·.1) = false := by rfl) :
    PE X (.Call (.Name x p) (e :: es) [] pos) (tMakeS C sp E t) := by
  refine ⟨fun pins s σ H Q I h => ?_⟩
  refine wpAny_Call_Name_kw (ld_glob I hg hm ?_ hdb)
  refine PySem.W.callWith_K (h₀ := X.base) I.ok.mod.kin M.kp (thn (ha.run pos pins s σ H _ I h) fun us s1 ⟨vs, H1, I1, r, q⟩ => ⟨I1.kIn, ?_⟩) he hpl
  have hq := q (s1.heap.objs.size + 1) s1.heap.objs.size (I1.hok.fresh (Nat.le_succ _)) (I1.hok.fresh (Nat.le_refl _)) (Nat.ne_of_lt (Nat.lt_succ_self _))
  have I2 := Inv.made (C := C) I1
  have r2 : Vals (V.ref (s1.heap.objs.size + 1) :: vs) (Value.ref (s1.heap.objs.size + 1) :: us) := .cons rfl r
  have hl : ((Value.ref (s1.heap.objs.size + 1) :: us) ++ []).length = ps.length := by
    rw [List.append_nil]
    have e := r2.length
    rw [F.len _ _ _ _ hq] at e
    exact e.symm
  have hbb := hb _ (Value.ref (s1.heap.objs.size + 1) :: us) I2.kIn hl
  rw [List.append_nil] at hbb
  refine wpAny_call (make_map (f := f) I1.kIn M.makes M.init (beq_iff_eq.mp M.fn) (codeAny_mono (F.run _ X.stack _ _ ⟨Value.ref (s1.heap.objs.size + 1) :: us, []⟩ (Value.ref (s1.heap.objs.size + 1) :: us) _ _ (E σ) (hr.make C us [])
    (I2.env0.make C us []) hbb r2 hq) fun r s' hq' => ?_))
  cases r with
  | error e => exact hx σ pins _ _ e s' I2 hq'
  | ok fl =>
    cases fl with
    | ret u =>
      obtain ⟨v, H', I3, rv, ev, q3⟩ := I2.after hq'
      subst ev
      exact ⟨rv, ⟨V.ref (s1.heap.objs.size + 1), H', I3, rfl, q3⟩⟩
    | next => exact False.elim hq'
    | brk => exact False.elim hq'
    | cont => exact False.elim hq'
end
structure ConMk (P : Program) (w : World) (K : PySem.W.Frag) (mg : Str → Option Value) (base : Heap) (CS CC CN : Addr) : Prop where
  ex : ∃ f fd, FnOk P w K mg base (L2N.CX P w) 10 f fd ["self", "harbour", "ships"] (SpInitC K CS CC CN) ∧ Mk K CC f ∧ Binds K fd ["self", "harbour", "ships"] []
  mg_ : mg "Console" = some (.ref CC)
theorem conMk {P : Program} {w : World} {K : PySem.W.Frag} {mg : Str → Option Value} {base : Heap} {CS CC CN : Addr} (T : Txt K mg) (S : TxtS K mg CS) (C : TxtCon K mg CC) (NW : RaiseNW P K mg CN) : ConMk P w K mg base CS CC CN := by
  obtain ⟨f, fd, M, F⟩ := C.ini
  exact ⟨⟨f, fd, fn_conInit T S C NW F, M, F.binds fun _ _ _ _ _ _ us hl => match us, hl with | [_, _, _], _ => rfl⟩, C.mg_⟩
section
variable {X : Cx} {e : Expr} {es : List Expr} {σ : L2.St} {B H : Hp} {pp pos : Pos} {CS CC CN : Addr} {h : Harb} {ships : List Ship}
theorem we_mkCon {E : L2.St → XK} {Q : VK} (hx : ∀ σ, PassesAt (L2N.CX X.prog X.w) X σ (E σ)) (G : ConMk X.prog X.w X.K X.mg X.base CS CC CN) (hr : Room 11 X.A) (hg : Gl X "Console") (ok : NewOk h ships) (ha : XA X (e :: es) σ B (PCons (DD X.K (eHarb h)) (PCons (DD X.K (eShips ships)) PNil))) (s : Same B H)
    (kok : hasWay h ships (beginOf ships) (noPr ships) = true → ∀ c dx B' H', Gr B H B' H' → H c = none → OwnCon X.K CS CC B' (dropA H' c) c dx (conSt h ships) 0 B' H' → Q (.ref c) H') (kno : hasWay h ships (beginOf ships) (noPr ships) = false → ∀ d H', Same H H' → E σ (.ref CN) d H')
    (he : starEach (e :: es) X.env = (false, eval e X.env) :: starEach es X.env := by rfl) (hpl : (backTo pos (starEach es X.env)).any (·.1) = false := by rfl) : WE X (.Call (.Name "Console" pp) (e :: es) [] pos) σ H Q := by
  obtain ⟨⟨f, fd, F, M, hb⟩, hm⟩ := G
  refine we_of (pe_makeS (E := E) M F hr hg hm hb hx paW (by decide) he hpl) ?_
  refine ha H s _ fun vs B1 H1 g1 p1 => ?_
  obtain ⟨hv, r, rfl, q1, sv, r2, rfl, q2, rfl⟩ := p1
  intro x dx hxn hdn hne
  have e1 : ∀ a o, H1 a = some o → dropA (upd (upd H1 dx (.own x)) x (.ins CC dx [])) x a = some o := fun a o q => by
    have nx : a ≠ x := by rintro rfl; rw [hxn] at q; cases q
    have nd : a ≠ dx := by rintro rfl; rw [hdn] at q; cases q
    rw [dropA_ne nx, upd_ne nx, upd_ne nd]
    exact q
  have sB : Same B1 (upd (upd H1 dx (.own x)) x (.ins CC dx [])) := fun a o q => dropA_sub a o (e1 a o (g1.bh a o q))
  have hB1 : B1 x = none := g1.bh.free hxn
  refine ⟨h, ships, B1, x, dx, hv, sv, sB, hB1, upd_same, rfl, ok, q1, q2, fun ht B' H' oc => ⟨rfl, ?_⟩, fun hf d H' s' => ?_⟩
  · obtain ⟨sv', ev', c2, ck⟩ := oc
    have g2 := c2.gr
    have g3 : Gr B1 H1 B' H' := by
      refine ⟨fun a o q => g2.hh a o (e1 a o q), g2.bb, g2.bh, fun a q => ?_⟩
      rcases g2.fr a q with z | z
      · exact .inl z
      · right
        cases q2 : H1 a with
        | none => rfl
        | some o =>
          rw [e1 a o q2] at z
          cases z
    exact kok ht x dx B' H' (g1.trans g3) (g1.hh.free hxn) ⟨sv', ev', c2.here, ck⟩
  · exact kno hf d H' fun a o q => s' a o (e1 a o (g1.hh a o q))
end
end TW
/-! WY5: consoles in the hands of the law: reads, go, promise. -/
namespace TW
open PySem PySem.Spec PyProof.Rows L2
section
variable {X : Cx} {CX : CXT} {k : Nat} {f C : Addr} {fd : FuncData} {ps : List Str} {sp : Sp} {E : L2.St → XK} {m : Str} {pos apos : Pos} {e o : Expr} {es : List Expr} {ta : TE} {t : TA}
def tMethT (C : Addr) (m : Str) (sp : Sp) (E : L2.St → XK) (ta : TE) (t : TA) : TE := fun σ H Q => ta σ H fun x H1 => ∃ a dx fs, x = .ref a ∧ H1 a = some (.ins C dx fs) ∧ fs.lookup m = none ∧ t σ H1 fun vs H2 => sp (x :: vs) H2 Q (E σ)
theorem pe_methT {pl : Sem Bool} (he : PE X o ta) (c : Cls X.K C) (hm : Meth X.K C m f) (F : FnOk X.prog X.w X.K X.mg X.base CX k f fd ps sp) (hr : Room k X.A) (hb : Binds X.K fd ps []) (hx : ∀ σ, PassesAt CX X σ (E σ)) (ha : PA X (e :: es) t)
    (hst : starEach (e :: es) X.env = (false, eval e X.env) :: starEach es X.env := by rfl) (hpl : (backTo pos (starEach es X.env)).any (·.1) = false := by rfl)
    (ht : eval (.Call (.Attribute o m apos) (e :: es) [] pos) X.env = (do
      let ov ← eval o X.env
      standAt apos.atName
      let (f, first) ← holding [ov] (getMethod ov m pl)
      callWith pos f first (backTo pos (starEach (e :: es) X.env)) (backToKw pos (keywordEach [] X.env))) := by rfl) :
    PE X (.Call (.Attribute o m apos) (e :: es) [] pos) (tMethT C m sp E ta t) := by
  refine ⟨fun pins s σ H Q I h => ?_⟩
  refine PySem.W.methodCall_KW (pl := pl) (thn (he.run pins s σ H _ I h) fun u s1 ⟨x, H1, I1, rx, a, dx, fs, ex, ea, l, q⟩ => ?_) ht
  subst ex
  obtain rfl : u = Value.ref a := rx
  refine getmeth_ok I1 ea c hm l ?_
  refine PySem.W.callWith_K (first := [.ref a]) (h₀ := X.base) I.ok.mod.kin hm.kp (thn (ha.run pos pins s1 σ H1 _ I1 q) fun us s2 ⟨vs, H2, I2, r, q2⟩ => ⟨I2.kIn, ?_⟩) hst hpl
  exact run_fnS (us := .ref a :: us) (vs := .ref a :: vs) F hr hb (hx σ) I2 (.cons rfl r) q2
end
/-- the console at c -/
structure Con (K : PySem.W.Frag) (CS CC : Addr) (c dx : Addr) (y : StD) (n : Nat) (B H : Hp) : Prop where
  bh : Same B H
  lo : B c = none
  ex : ∃ sv ev, H c = some (.ins CC dx (cF sv n ev)) ∧ ConK K CS y n sv ev B
section
variable {K : PySem.W.Frag} {CS CC c dx c2 dx2 : Addr} {y y2 : StD} {n n2 : Nat} {B H B0 H0 B' H' : Hp}
theorem Con.of (o : OwnCon K CS CC B0 H0 c dx y n B H) : Con K CS CC c dx y n B H := by
  obtain ⟨sv, ev, a, ck⟩ := o
  exact ⟨a.bh, a.lo, sv, ev, a.at', ck⟩
theorem Con.own (a : Con K CS CC c dx y n B H) : OwnCon K CS CC B (dropA H c) c dx y n B H := by
  obtain ⟨bh, lo, sv, ev, h, ck⟩ := a
  exact ⟨sv, ev, ⟨Gr.takeOut bh lo, lo, h⟩, ck⟩
theorem Con.live (a : Con K CS CC c dx y n B H) : H c ≠ none := by
  obtain ⟨bh, lo, sv, ev, h, ck⟩ := a
  rw [h]
  intro z
  cases z
theorem Con.step (a : Con K CS CC c dx y n B H) (g : Gr B H B' H') : Con K CS CC c dx y n B' H' := by
  have lv := a.live
  obtain ⟨bh, lo, sv, ev, h, ck⟩ := a
  exact ⟨g.bh, g.low lo lv, sv, ev, g.hh _ _ h, ck.up g.bb⟩
/-- another's deed -/
theorem Con.other (a : Con K CS CC c2 dx2 y2 n2 B H) (ne : c2 ≠ c) (g : Gr B (dropA H c) B' H') : Con K CS CC c2 dx2 y2 n2 B' H' := by
  have lv := a.live
  obtain ⟨bh, lo, sv, ev, h, ck⟩ := a
  have e : (dropA H c) c2 = some (.ins CC dx2 (cF sv n2 ev)) := by rw [dropA_ne ne]; exact h
  exact ⟨g.bh, g.low lo (by rw [e]; intro z; cases z), sv, ev, g.hh _ _ e, ck.up g.bb⟩
end
section
variable {X : Cx} {e o : Expr} {es : List Expr} {σ : L2.St} {B H : Hp} {P : Hp → V → Prop} {PL : Hp → List V → Prop} {pos apos : Pos} {CS CC CL c dx : Addr} {y : StD} {n k : Nat} {α : Type} {A : α → StD → Nat → Hp → List V → Prop} {R : α → StD → Nat → StD → Nat → Hp → V → Prop} {m : Str} {ps : List Str} {pl : Sem Bool}
/-- o.m(e, ..), a method that changes the console at c -/
theorem we_conM {Q : VK} (x : α) (G : MtOk X.prog X.w X.K X.mg X.base CX0 k CC m ps (SpM X.K CS CC A R)) (cl : Cls X.K CC) (hr : Room k X.A) (a : Con X.K CS CC c dx y n B H) (ho : XE X o σ B (Is (.ref c))) (ha : XA X (e :: es) σ B PL) [MonoL PL] (hm0 : ∀ sv n ev, (cF sv n ev).lookup m = none)
    (hA : ∀ C' vs, Same B C' → PL C' vs → A x y n C' vs) (kq : ∀ y' n' v B' H', Gr B (dropA H c) B' H' → Con X.K CS CC c dx y' n' B' H' → R x y n y' n' B' v → Q v H')
    (hst : starEach (e :: es) X.env = (false, eval e X.env) :: starEach es X.env := by rfl) (hpl : (backTo pos (starEach es X.env)).any (·.1) = false := by rfl)
    (ht : eval (.Call (.Attribute o m apos) (e :: es) [] pos) X.env = (do
      let ov ← eval o X.env
      standAt apos.atName
      let (f, first) ← holding [ov] (getMethod ov m pl)
      callWith pos f first (backTo pos (starEach (e :: es) X.env)) (backToKw pos (keywordEach [] X.env))) := by rfl) : WE X (.Call (.Attribute o m apos) (e :: es) [] pos) σ H Q := by
  obtain ⟨f, fd, F, hm, hb⟩ := G.ex
  obtain ⟨sv, ev, ac, ck⟩ := a.own
  refine we_of (pe_meth (E := E0) (pl := pl) peW cl hm F hr hb .nil pass0 paW hst hpl ht) (ho H a.bh _ fun v B1 H1 g1 p1 => ?_)
  obtain rfl : v = .ref c := p1
  have a1 := ac.step g1
  refine ⟨c, dx, _, rfl, a1.at', hm0 _ _ _, ?_⟩
  refine ha.up g1.bb H1 g1.bh _ fun vs B2 H2 g2 p2 => ?_
  have a2 := a1.step g2
  have s2 := g1.bb.trans g2.bb
  refine ⟨x, y, n, B2, c, dx, vs, ⟨sv, ev, a2.here, ck.up s2⟩, by rw [List.append_nil], hA B2 vs s2 p2, fun y' n' v' B3 H3 oc r3 => ?_⟩
  obtain ⟨sv', ev', a3, ck3⟩ := oc
  exact kq y' n' v' B3 H3 (a2.own (dropA_at _ _) a3).gr (Con.of ⟨sv', ev', a3, ck3⟩) r3
/-- o.promise(ship, hour), which may raise Clash -/
theorem we_promise {E : L2.St → XK} {Q : VK} {e2 : Expr} {ship : Nat} {hour : Int} (hx : ∀ σ, PassesAt (L2N.CX X.prog X.w) X σ (E σ)) (G : MtOk X.prog X.w X.K X.mg X.base (L2N.CX X.prog X.w) 10 CC "promise" ["self", "ship", "hour"] (SpPr X.K CS CC CL)) (cl : Cls X.K CC) (hr : Room 10 X.A)
    (a : Con X.K CS CC c dx y n B H) (ho : XE X o σ B (Is (.ref c))) (h1 : XI X e σ B (ship : Int)) (h2 : XI X e2 σ B hour) (ok : PrOk y ship hour) (hn : n < 100)
    (kok : prCl y ship hour = none → ∀ v B' H', Gr B (dropA H c) B' H' → Con X.K CS CC c dx (prSt y ship hour) (n + 1) B' H' → Q v H')
    (kno : ∀ l, prCl y ship hour = some l → ∀ d v B' H', Gr B (dropA H c) B' H' → Con X.K CS CC c dx y n B' H' → Dq X.K B' v (eInts l) → H' d = some (.xd [("ships", v)]) → E σ (.ref CL) (some d) H')
    (hst : starEach [e, e2] X.env = (false, eval e X.env) :: starEach [e2] X.env := by rfl) (hst2 : starEach [e2] X.env = (false, eval e2 X.env) :: starEach [] X.env := by rfl) (hpl : (backTo pos (starEach [e2] X.env)).any (·.1) = false := by rfl)
    (ht : eval (.Call (.Attribute o "promise" apos) [e, e2] [] pos) X.env = (do
      let ov ← eval o X.env
      standAt apos.atName
      let (f, first) ← holding [ov] (getMethod ov "promise" pl)
      callWith pos f first (backTo pos (starEach [e, e2] X.env)) (backToKw pos (keywordEach [] X.env))) := by rfl) : WE X (.Call (.Attribute o "promise" apos) [e, e2] [] pos) σ H Q := by
  obtain ⟨f, fd, F, hm, hb⟩ := G.ex
  obtain ⟨sv, ev, ac, ck⟩ := a.own
  refine we_of (pe_methT (E := E) (pl := pl) peW cl hm F hr hb hx paW hst hpl ht) (ho H a.bh _ fun v B1 H1 g1 p1 => ?_)
  obtain rfl : v = .ref c := p1
  have a1 := ac.step g1
  refine ⟨c, dx, _, rfl, a1.at', rfl, ?_⟩
  refine (xp_cons (P := DD X.K (.int (ship : Int))) h1 (xp_cons (P := DD X.K (.int hour)) h2 xp_nil hst2) hst).up g1.bb H1 g1.bh _ fun vs B2 H2 g2 p2 => ?_
  obtain ⟨u, r, rfl, q1, u2, r2, rfl, q2, rfl⟩ := p2
  have a2 := a1.step g2
  have s2 := g1.bb.trans g2.bb
  refine ⟨y, n, ship, hour, B2, c, dx, u, u2, ⟨sv, ev, a2.here, ck.up s2⟩, rfl, q1, q2, ok, hn, fun hc v B3 H3 oc => ?_, fun l hl d v B3 H3 oc p3 hd => ?_⟩
  · obtain ⟨sv', ev', a3, ck3⟩ := oc
    exact kok hc v B3 H3 (a2.own (dropA_at _ _) a3).gr (Con.of ⟨sv', ev', a3, ck3⟩)
  · obtain ⟨sv', ev', a3, ck3⟩ := oc
    exact kno l hl d v B3 H3 (a2.own (dropA_at _ _) a3).gr (Con.of ⟨sv', ev', a3, ck3⟩) p3 hd
end
end TW
/-! WL1: int(..) of an int, of a truth value; _law_small. -/
namespace TW
open PySem PySem.Spec PyProof.Rows L2
section
variable {X : Cx} {σ : L2.St} {B H : Hp} {a : Expr} {pp pos : Pos} {n : Int} {p : Bool}
theorem boot_int : bootBuiltins "int" = some (.type "int") := by decide +kernel
theorem call_int_iR : CallR X (.type "int") (fun xs H Q => ∃ n, xs = [.int n] ∧ Q (.int n) H) := by
  intro pins s σ H xs us Q I r h
  obtain ⟨n, rfl, q⟩ := h
  obtain ⟨u, rfl, rx⟩ := vals1 r
  obtain ⟨t, rfl⟩ := rx
  exact call_int_int ⟨.int n, H, I, ⟨t, rfl⟩, q⟩
theorem call_int_bR : CallR X (.type "int") (fun xs H Q => ∃ b : Bool, xs = [.bl b] ∧ Q (.int (if b then 1 else 0)) H) := by
  intro pins s σ H xs us Q I r h
  obtain ⟨b, rfl, q⟩ := h
  obtain ⟨u, rfl, rx⟩ := vals1 r
  obtain rfl : u = Value.bool b := rx
  exact call_int_bool ⟨.int _, H, I.tok _, ⟨_, rfl⟩, q⟩
theorem x_intI (hg : Gl X "int") (hm : X.mg "int" = none) (ha : XI X a σ B n) (hs1 : starEach [a] X.env = (false, eval a X.env) :: starEach [] X.env := by rfl) : XI X (.Call (.Name "int" pp) [a] [] pos) σ B n :=
  x_callTy call_int_iR hg hm boot_int (xd_cons ha xd_nil hs1) (he := hs1) fun C H vs _ s pv Q k => by
    cases pv with
    | cons p1 p2 =>
      cases p2
      obtain rfl := Dq.int_v p1
      exact ⟨n, rfl, k _ _ _ (.rfl s) p1⟩
theorem x_intB (hg : Gl X "int") (hm : X.mg "int" = none) (ha : XB X a σ B p) (hs1 : starEach [a] X.env = (false, eval a X.env) :: starEach [] X.env := by rfl) : XI X (.Call (.Name "int" pp) [a] [] pos) σ B (if p then 1 else 0) :=
  x_callTy call_int_bR hg hm boot_int (xd_cons ha xd_nil hs1) (he := hs1) fun C H vs _ s pv Q k => by
    cases pv with
    | cons p1 p2 =>
      cases p2
      obtain rfl := Dq.bl_v p1
      exact ⟨p, rfl, k _ _ _ (.rfl s) (.int _)⟩
end
def dr (ds : List Int) (i : Nat) : Int := ds.getD i 0
theorem dr_at {ds : List Int} {i : Nat} (h : i < ds.length) : atI (ds.map PyData.int) (i : Int) = some (.int (dr ds i)) := by
  refine atI_nn (by omega) ?_
  rw [Int.toNat_natCast, List.getElem?_map, List.getElem?_eq_getElem h]
  unfold dr
  rw [List.getD_eq_getElem?_getD, List.getElem?_eq_getElem h]
  rfl
def smallOf (ds : List Int) (since : Int) : Ship :=
  { ready := since + dr ds 0 % 3, length := 1 + dr ds 1 % 5 + (if decide (dr ds 1 % 20 = 19) then 1 else 0), draught := dr ds 2 % 7, stay := 1 + dr ds 3 % 2, tugs := dr ds 4 % 3, sea := dr ds 5 % 5, lie := dr ds 6 % 5 }
section
variable {P : Program} {w : World} {K : PySem.W.Frag} {mg : Str → Option Value} {base : Heap}
def A55 (K : PySem.W.Frag) (y : List Int × Int) (B : Hp) (vs : List V) : Prop := (7 ≤ y.1.length) ∧ DqAll K B vs [eInts y.1, .int y.2]
theorem dn55 (T : Txt K mg) : Dn P w K mg base CX0 1 "_law_small" ["_law_draws_here", "_law_since"] (SpP (A55 K) fun y => DD K (eShip (smallOf y.1 y.2))) :=
  dn_of T.f55 sc55 (fun _ _ _ _ _ _ us hl => match us, hl with | [_, _], _ => rfl) (fun y B vs h => h.2.length) fun f cdv A0 outer s H vs E y B Q hr sb ha q => by
    obtain ⟨ds, since⟩ := y
    obtain ⟨hl, hv⟩ := ha
    change 7 ≤ ds.length at hl
    obtain ⟨v1, v2, rfl, r1, r2⟩ := inv2 hv
    have D : ∀ {B1 : Hp} (i : Nat), Same B B1 → i < 7 → Dq K B1 v1 (.list (ds.map .int)) ∧ atI (ds.map PyData.int) (i : Int) = some (.int (dr ds i)) := fun i s h => ⟨Dq.up s _ _ r1, dr_at (by omega)⟩
    refine ws_cons (ws_set (P := DD K (.list [.int (smallOf ds since).ready, .int (smallOf ds since).length, .int (smallOf ds since).draught, .int (smallOf ds since).stay])) 2 (x_lst (xd_cons (x_add (x_var 1 rfl r2) (x_mod (x_intI rfl T.b_int (x_ixL (x_var 0 rfl r1) x_int (dr_at (ds := ds) (i := 0) (by omega)))) x_int (by decide)))
      (xd_cons (x_add (x_add x_int (x_mod (x_intI rfl T.b_int (x_ixL (x_var 0 rfl r1) x_int (dr_at (ds := ds) (i := 1) (by omega)))) x_int (by decide))) (x_intB rfl T.b_int (x_cmp (c_eqI (un64 hr)) (x_mod (x_intI rfl T.b_int (x_ixL (x_var 0 rfl r1) x_int (dr_at (ds := ds) (i := 1) (by omega)))) x_int (by decide)) x_int)))
      (xd_cons (x_mod (x_intI rfl T.b_int (x_ixL (x_var 0 rfl r1) x_int (dr_at (ds := ds) (i := 2) (by omega)))) x_int (by decide))
      (xd_cons (x_add x_int (x_mod (x_intI rfl T.b_int (x_ixL (x_var 0 rfl r1) x_int (dr_at (ds := ds) (i := 3) (by omega)))) x_int (by decide))) xd_nil)))) (show 4 ≤ sizeLine by decide)) sb (fun ov B1 H1 g1 p1 => ?_) (hN := sc55.nd))
    have r1' : Dq K B1 v1 (.list (ds.map .int)) := Dq.up g1.bb _ _ r1
    refine ws_one (ws_ret (P := DD K (eShip (smallOf ds since))) ?_ g1.bh fun v B2 H2 g2 p2 => q v B2 H2 (g1.trans g2) p2)
    show XE _ _ _ _ (DD K (.tuple ([.int (smallOf ds since).ready, .int (smallOf ds since).length, .int (smallOf ds since).draught, .int (smallOf ds since).stay] ++ [.int (smallOf ds since).tugs, .int (smallOf ds since).sea, .int (smallOf ds since).lie])))
    refine x_tupleOf rfl T.b_tuple (x_cat (es := [.int (smallOf ds since).ready, .int (smallOf ds since).length, .int (smallOf ds since).draught, .int (smallOf ds since).stay]) (fs := [.int (smallOf ds since).tugs, .int (smallOf ds since).sea, .int (smallOf ds since).lie]) (x_var 2 rfl p1) ?_ (show 7 ≤ sizeLine by decide))
    exact (x_lst (xd_cons (x_mod (x_intI rfl T.b_int (x_ixL (x_var 0 rfl r1') x_int (dr_at (ds := ds) (i := 4) (by omega)))) x_int (by decide))
      (xd_cons (x_mod (x_intI rfl T.b_int (x_ixL (x_var 0 rfl r1') x_int (dr_at (ds := ds) (i := 5) (by omega)))) x_int (by decide))
      (xd_cons (x_mod (x_intI rfl T.b_int (x_ixL (x_var 0 rfl r1') x_int (dr_at (ds := ds) (i := 6) (by omega)))) x_int (by decide)) xd_nil))) (show 3 ≤ sizeLine by decide))
end
end TW
/-! WL2: _law_world. -/
namespace TW
open PySem PySem.Spec PyProof.Rows L2
theorem dr_at' {ds : List Int} {i : Nat} {j : Int} (h : i < ds.length) (e : j = (i : Int)) : atI (ds.map PyData.int) j = some (.int (dr ds i)) := by
  rw [e]
  exact dr_at h
theorem cut_eq {α β : Type} (f : α → β) (l : List α) {a b : Nat} (h : a ≤ b) (hb : b ≤ l.length) : ((l.map f).drop a).take (b - a) = ((l.drop a).take (b - a)).map f := by
  rw [List.map_take, List.map_drop]
theorem cutD_ab {ds : List Int} {a b : Nat} (h : a ≤ b) (hb : b ≤ ds.length) : cutD (ds.map PyData.int) (some (a : Int)) (some (b : Int)) = ((ds.drop a).take (b - a)).map PyData.int := by
  have e1 : HT.sIx (ds.map PyData.int).length 0 (some (a : Int)) = a := by
    unfold HT.sIx
    simp only [List.length_map]
    split <;> omega
  have e2 : HT.sIx (ds.map PyData.int).length (ds.map PyData.int).length (some (b : Int)) = b := by
    unfold HT.sIx
    simp only [List.length_map]
    split <;> omega
  unfold cutD
  rw [e1, e2]
  exact cut_eq _ _ h hb
def depthsOf (ds : List Int) : List Int := 8 :: (List.range (dr ds 0 % 3).toNat).map fun k => 2 + dr ds (1 + k) % 7
def berthsOf (ds : List Int) : List Int := (List.range (1 + dr ds 6 % 2).toNat).map fun k => 5 + dr ds (4 + k) % 2
def harbOf (ds : List Int) : Harb := ⟨depthsOf ds, berthsOf ds, 2 + dr ds 7 % 3, 1 + dr ds 8 % 2, 6 + dr ds 9 % (4 - 2 * (((berthsOf ds).length : Int) - 1))⟩
def shipsOf (ds : List Int) : List Ship := (List.range (1 + dr ds 10 % 2).toNat).map fun k => smallOf ((ds.drop (12 + 8 * k)).take 8) 0
def eWorld (y : Harb × List Ship) : PyData := .tuple [eHarb y.1, eShips y.2]
section
variable {P : Program} {w : World} {K : PySem.W.Frag} {mg : Str → Option Value} {base : Heap}
def A56 (K : PySem.W.Frag) (y : List Int) (B : Hp) (vs : List V) : Prop := (y.length = 60) ∧ DqAll K B vs [eInts y]
theorem dn56 (T : Txt K mg) : Dn P w K mg base CX0 2 "_law_world" ["_law_draws_here"] (SpP (A56 K) fun y => DD K (eWorld (harbOf y, shipsOf y))) :=
  dn_of T.f56 sc56 (fun _ _ _ _ _ _ us hl => match us, hl with | [_], _ => rfl) (fun y B vs h => h.2.length) fun f cdv A0 outer s H vs E ds B Q hr sb ha q => by
    obtain ⟨hl, hv⟩ := ha
    obtain ⟨v1, rfl, r1⟩ := inv1 hv
    have n0 : 0 ≤ dr ds 0 % 3 ∧ dr ds 0 % 3 < 3 := ⟨Int.emod_nonneg _ (by decide), Int.emod_lt_of_pos _ (by decide)⟩
    have n6 : 0 ≤ dr ds 6 % 2 ∧ dr ds 6 % 2 < 2 := ⟨Int.emod_nonneg _ (by decide), Int.emod_lt_of_pos _ (by decide)⟩
    have n10 : 0 ≤ dr ds 10 % 2 ∧ dr ds 10 % 2 < 2 := ⟨Int.emod_nonneg _ (by decide), Int.emod_lt_of_pos _ (by decide)⟩
    have lb : (berthsOf ds).length = (1 + dr ds 6 % 2).toNat := by unfold berthsOf; rw [List.length_map, List.length_range]
    have hd0 : 8 :: (List.range (dr ds 0 % 3).toNat).map (fun k => 2 + dr ds (1 + k) % 7) = depthsOf ds := rfl
    refine ws_cons (ws_set (P := DD K (eInts (depthsOf ds))) 1 ?_ sb (fun dv B1 H1 g1 p1 => ?_) (hN := sc56.nd))
    · show XE _ _ _ _ (DD K (.list ([.int 8] ++ ((List.range (dr ds 0 % 3).toNat).map (fun k => 2 + dr ds (1 + k) % 7)).map .int)))
      refine x_cat (x_lst (xd_cons x_int xd_nil) (show 1 ≤ sizeLine by decide)) (x_lcM (l := List.range (dr ds 0 % 3).toNat) (enc := fun (i : Nat) => PyData.int (i : Int)) (enc' := .int) (own := o56_0) (fun k => 2 + dr ds (1 + k) % 7) (xi_rangeN rfl T.b_range (x_mod (x_intI rfl T.b_int (x_ixL (x_var 0 rfl r1) x_int (dr_at (ds := ds) (i := 0) (by omega)))) x_int (by decide)) (by omega) (by omega)) ?_ (by rw [List.length_range, line_big]; omega) rfl sc56.nd bk56_0) (by rw [List.length_map, List.length_map, List.length_range, line_big]; simp; omega)
      intro i t v B' ea sb' hd
      obtain ⟨hin, rfl⟩ : i < (dr ds 0 % 3).toNat ∧ i = t := by
        obtain ⟨h2, h3⟩ := List.getElem?_eq_some_iff.mp ea
        rw [List.length_range] at h2
        rw [List.getElem_range] at h3
        exact ⟨h2, h3⟩
      apply lc_map (f := fun k : Nat => 2 + dr ds (1 + k) % 7) (a := i) (enc' := .int)
      · rintro XB ⟨_, _, _, _, _, rfl⟩
        exact ⟨xg_name 5 sc56.nd, x_add x_int (x_mod (x_intI rfl T.b_int (x_ixL (x_var 0 rfl (Dq.up sb' _ _ r1)) (x_add x_int (x_var 5 rfl hd)) (dr_at' (ds := ds) (i := 1 + i) (by omega) (by omega)))) x_int (by decide))⟩
      · rfl
    · have r11 := Dq.up g1.bb _ _ r1
      refine ws_cons (ws_setLc (l := List.range (1 + dr ds 6 % 2).toNat) (enc := fun (i : Nat) => PyData.int (i : Int)) (enc' := .int) (own := o56_1) 2 (xi_rangeN rfl T.b_range (x_add x_int (x_mod (x_intI rfl T.b_int (x_ixL (x_var 0 rfl r11) x_int (dr_at (ds := ds) (i := 6) (by omega)))) x_int (by decide))) (by omega) (by omega)) (fun k => some (5 + dr ds (4 + k) % 2)) ?_ g1.bh (fun bv B2 H2 g2 p2 => ?_) (by rw [List.length_range, line_big]; omega) rfl sc56.nd bk56_1 rfl)
      · intro i t v B' ea sb' hd
        obtain ⟨hin, rfl⟩ : i < (1 + dr ds 6 % 2).toNat ∧ i = t := by
          obtain ⟨h2, h3⟩ := List.getElem?_eq_some_iff.mp ea
          rw [List.length_range] at h2
          rw [List.getElem_range] at h3
          exact ⟨h2, h3⟩
        apply lc_map (f := fun k : Nat => 5 + dr ds (4 + k) % 2) (a := i) (enc' := .int)
        · rintro XB ⟨_, _, _, _, _, rfl⟩
          exact ⟨xg_name 5 sc56.nd, x_add x_int (x_mod (x_intI rfl T.b_int (x_ixL (x_var 0 rfl (Dq.up sb' _ _ r11)) (x_add x_int (x_var 5 rfl hd)) (dr_at' (ds := ds) (i := 4 + i) (by omega) (by omega)))) x_int (by decide))⟩
        · rfl
      · rw [fm_map] at p2
        have p2' : Dq K B2 bv (.list ((berthsOf ds).map .int)) := p2
        have r12 := Dq.up g2.bb _ _ r11
        have p12 := Dq.up g2.bb _ _ p1
        have lbb : (((berthsOf ds).map PyData.int).length : Int) = ((berthsOf ds).length : Int) := by rw [List.length_map]
        refine ws_cons (ws_set (P := DD K (.int (harbOf ds).last)) 3 ?_ g2.bh (fun lv B3 H3 g3 p3 => ?_) (hN := sc56.nd))
        · show XE _ _ _ _ (DD K (.int (6 + dr ds 9 % (4 - 2 * (((berthsOf ds).length : Int) - 1)))))
          refine x_add x_int (x_mod (x_intI rfl T.b_int (x_ixL (x_var 0 rfl r12) x_int (dr_at (ds := ds) (i := 9) (by omega)))) (x_sub x_int (x_mul x_int (x_sub (by rw [← lbb]; exact x_lenL rfl T.b_len (x_var 2 rfl p2')) x_int) ?_)) (by omega))
          exact .inl ⟨by decide, by decide⟩
        · have r13 := Dq.up g3.bb _ _ r12
          have p13 := Dq.up g3.bb _ _ p12
          have p23 := Dq.up g3.bb _ _ p2'
          refine ws_cons (ws_set (P := DD K (eHarb (harbOf ds))) 4 (x_tup (ds := [eInts (depthsOf ds), eInts (berthsOf ds), .int (harbOf ds).tugs, .int (harbOf ds).pilots, .int (harbOf ds).last]) (xd_cons (x_var 1 rfl p13) (xd_cons (x_var 2 rfl p23)
            (xd_cons (x_add x_int (x_mod (x_intI rfl T.b_int (x_ixL (x_var 0 rfl r13) x_int (dr_at (ds := ds) (i := 7) (by omega)))) x_int (by decide))) (xd_cons (x_add x_int (x_mod (x_intI rfl T.b_int (x_ixL (x_var 0 rfl r13) x_int (dr_at (ds := ds) (i := 8) (by omega)))) x_int (by decide))) (xd_cons (x_var 3 rfl p3) xd_nil)))))) g3.bh (fun hv B4 H4 g4 p4 => ?_) (hN := sc56.nd))
          have r14 := Dq.up g4.bb _ _ r13
          refine ws_one (ws_ret (P := DD K (eWorld (harbOf ds, shipsOf ds))) (x_tup (ds := [eHarb (harbOf ds), eShips (shipsOf ds)]) (xd_cons (x_var 4 rfl p4) (xd_cons ?_ xd_nil))) g4.bh fun v B5 H5 g5 p5 => q v B5 H5 ((((g1.trans g2).trans g3).trans g4).trans g5) p5)
          refine x_lcM (l := List.range (1 + dr ds 10 % 2).toNat) (enc := fun (i : Nat) => PyData.int (i : Int)) (enc' := eShip) (own := o56_2) (fun k => smallOf ((ds.drop (12 + 8 * k)).take 8) 0) (xi_rangeN rfl T.b_range (x_add x_int (x_mod (x_intI rfl T.b_int (x_ixL (x_var 0 rfl r14) x_int (dr_at (ds := ds) (i := 10) (by omega)))) x_int (by decide))) (by omega) (by omega)) ?_ (by rw [List.length_range, line_big]; omega) rfl sc56.nd bk56_2
          intro i t v B' ea sb' hd
          obtain ⟨hin, rfl⟩ : i < (1 + dr ds 10 % 2).toNat ∧ i = t := by
            obtain ⟨h2, h3⟩ := List.getElem?_eq_some_iff.mp ea
            rw [List.length_range] at h2
            rw [List.getElem_range] at h3
            exact ⟨h2, h3⟩
          apply lc_map (f := fun k : Nat => smallOf ((ds.drop (12 + 8 * k)).take 8) 0) (a := i) (enc' := eShip)
          · rintro XB ⟨_, _, _, _, _, rfl⟩
            refine ⟨xg_name 5 sc56.nd, x_call (y := ((ds.drop (12 + 8 * i)).take 8, 0)) (dn55 T) hr rfl (XA.imp (P := DDs K [eInts ((ds.drop (12 + 8 * i)).take 8), .int 0]) (xd_cons ?_ (xd_cons x_int xd_nil)) fun C' vs _ q => ⟨?_, q⟩)⟩
            · have e : cutD (ds.map PyData.int) (some (12 + 8 * (i : Int))) (some (20 + 8 * (i : Int))) = ((ds.drop (12 + 8 * i)).take 8).map PyData.int := by
                have z := cutD_ab (ds := ds) (a := 12 + 8 * i) (b := 20 + 8 * i) (by omega) (by omega)
                have e8 : 20 + 8 * i - (12 + 8 * i) = 8 := by omega
                rw [e8] at z
                rw [← z]
                congr 1
              show XE _ _ _ _ (DD K (.list (((ds.drop (12 + 8 * i)).take 8).map PyData.int)))
              rw [← e]
              exact x_sl (x_var 0 rfl (Dq.up sb' _ _ r14)) (x_add x_int (x_mul x_int (x_var 5 rfl hd) (.inl ⟨by decide, by decide⟩))) (x_add x_int (x_mul x_int (x_var 5 rfl hd) (.inl ⟨by decide, by decide⟩)))
            · show 7 ≤ ((ds.drop (12 + 8 * i)).take 8).length
              rw [List.length_take, List.length_drop]
              omega
          · rfl
end
end TW
/-! WL3: _law_moves. -/
namespace TW
open PySem PySem.Spec PyProof.Rows L2
theorem alike_trip (a b : Trip) : PySem.W.alike (eTrip a) (eTrip b) = true := by
  unfold eTrip
  simp [PySem.W.alike, PySem.W.alikeAll]
theorem sortOk_trip {X : Cx} {A : Around} {l : List Trip} (hu : A.units + 8 < cLine) : SortOk X A (l.map eTrip) := fun s vs e =>
  PySem.W.SortsAt.data e (PySem.W.AllAlike.of alike_trip) (PySem.W.Sortable.tuples fun b => ⟨_, _, rfl⟩) fun d hd => by
    obtain ⟨t, _, rfl⟩ := List.mem_map.mp hd
    have : (eTrip t).depth ≤ 4 := by
      unfold eTrip
      simp [PyData.depth, PyData.depthAll]
    omega
def planAt (plan : List Trip) (i : Nat) : Trip := plan.getD i (0, 0, 0)
def rowsN (plan : List Trip) (k : Nat) : List Trip := (List.range k).flatMap fun (i : Nat) => [((planAt plan i).1, (i : Int), (planAt plan i).2.1), ((planAt plan i).2.2, (i : Int), (-1 : Int))]
theorem rowsN_succ (plan : List Trip) (k : Nat) : rowsN plan (k + 1) = rowsN plan k ++ [((planAt plan k).1, (k : Int), (planAt plan k).2.1), ((planAt plan k).2.2, (k : Int), (-1 : Int))] := by
  unfold rowsN
  rw [List.range_succ, List.flatMap_append, List.flatMap_singleton]
theorem rowsN_len (plan : List Trip) : ∀ k, (rowsN plan k).length = 2 * k
  | 0 => rfl
  | k + 1 => by
    rw [rowsN_succ, List.length_append, rowsN_len plan k]
    rfl
def movesOf (plan : List Trip) (hour : Int) : List Trip := ((rowsN plan plan.length).mergeSort (PySem.W.dataLe false eTrip)).filter fun t => decide (t.1 < hour)
section
variable {P : Program} {w : World} {K : PySem.W.Frag} {mg : Str → Option Value} {base : Heap}
def A58 (K : PySem.W.Frag) (y : List Trip × Int) (B : Hp) (vs : List V) : Prop := (y.1.length ≤ 100) ∧ DqAll K B vs [eTrips y.1, .int y.2]
theorem dn58 (T : Txt K mg) : Dn P w K mg base CX0 1 "_law_moves" ["_law_plan", "_law_hour"] (SpP (A58 K) fun y => DD K (eTrips (movesOf y.1 y.2))) :=
  dn_of T.f58 sc58 (fun _ _ _ _ _ _ us hl => match us, hl with | [_, _], _ => rfl) (fun y B vs h => h.2.length) fun f cdv A0 outer s H vs E y B Q hr sb ha q => by
    obtain ⟨plan, hour⟩ := y
    obtain ⟨hn, hv⟩ := ha
    change plan.length ≤ 100 at hn
    obtain ⟨v1, v2, rfl, r1, r2⟩ := inv2 hv
    refine ws_cons (ws_set (P := DD K (eTrips [])) 2 (x_lst xd_nil (Nat.zero_le _)) sb (fun fv B1 H1 g1 p1 => ?_) (hN := sc58.nd))
    have el : ((plan.map eTrip).length : Int) = (plan.length : Int) := by rw [List.length_map]
    have r11 := Dq.up g1.bb _ _ r1
    refine ws_cons (ws_forB (l := List.range plan.length) (enc := fun (i : Nat) => PyData.int (i : Int)) rfl (xi_rangeN (n := (plan.length : Int)) rfl T.b_range (by rw [← el]; exact x_lenL rfl T.b_len (x_var 0 rfl r11)) rfl (by omega)) g1.bh fun B3 H3 g3 => ?_)
    refine ⟨fun i σ' B' H' => (∃ u x3 x4 x5 x6 x7, σ' = [some v1, some v2, some u, x3, x4, x5, x6, x7] ∧ Dq K B' u (eTrips (rowsN plan i))) ∧ Gr B1 H1 B' H' ∧ Same B3 B',
      ⟨⟨fv, _, _, _, _, _, rfl, Dq.up g3.bb _ _ p1⟩, g3, .refl _⟩, fun i σ' B' H' h => ⟨h.2.2, h.2.1.bh⟩, ?_, ?_⟩
    · rintro i n v σ' B' H' B4 H4 ea ⟨⟨u, x3, x4, x5, x6, x7, rfl, pu⟩, gg, sB⟩ g4 dv
      obtain ⟨hin, rfl⟩ : i < plan.length ∧ i = n := by
        obtain ⟨h2, h3⟩ := List.getElem?_eq_some_iff.mp ea
        rw [List.length_range] at h2
        rw [List.getElem_range] at h3
        exact ⟨h2, h3⟩
      have g14 := gg.trans g4
      have pu4 := Dq.up g4.bb _ _ pu
      refine ⟨_, xg_name 3 sc58.nd, ?_⟩
      refine ws_cons (ws_asg (P := DD K (eTrip (planAt plan i))) (x_ixL (x_var 0 rfl (Dq.up g14.bb _ _ r11)) (x_var 3 rfl dv) (atI_nat hin)) g4.bh fun tv B5 H5 g5 p5 => ?_)
      obtain ⟨l, w1, w2, w3, rfl, hq, q1, q2, q3⟩ := tup3 p5
      refine ⟨_, xg_tup rfl hq (xgs_cons (xg_name 4 sc58.nd) (xgs_cons (xg_name 5 sc58.nd) (xgs_cons (xg_name 6 sc58.nd) xgs_nil))), ?_⟩
      have dv5 := Dq.up g5.bb _ _ dv
      have pu5 := Dq.up g5.bb _ _ pu4
      refine ws_one (ws_set (P := DD K (eTrips (rowsN plan (i + 1)))) 2 ?_ g5.bh (fun u2 B6 H6 g6 p6 => ⟨B6, ⟨u2, _, _, _, _, _, rfl, p6⟩, (g14.trans g5).trans g6, ((sB.trans g4.bb).trans g5.bb).trans g6.bb⟩) (hN := sc58.nd))
      rw [rowsN_succ]
      show XE _ _ _ _ (DD K (.list ((rowsN plan i ++ _).map eTrip)))
      rw [List.map_append]
      refine x_cat (x_var 2 rfl pu5) (x_lst (ds := [eTrip ((planAt plan i).1, (i : Int), (planAt plan i).2.1), eTrip ((planAt plan i).2.2, (i : Int), (-1 : Int))]) (xd_cons (x_tup (xd_cons (x_var 4 rfl q1) (xd_cons (x_var 3 rfl dv5) (xd_cons (x_var 5 rfl q2) xd_nil)))) (xd_cons (x_tup (xd_cons (x_var 6 rfl q3) (xd_cons (x_var 3 rfl dv5) (xd_cons (x_neg x_int) xd_nil)))) xd_nil)) (show 2 ≤ sizeLine by decide)) ?_
      rw [List.length_map, rowsN_len, line_big]
      simp
      omega
    · rintro σ' B' H' ⟨⟨u, x3, x4, x5, x6, x7, rfl, pu⟩, gg, sB⟩
      rw [List.length_range] at pu
      refine ws_one (ws_ret (P := DD K (eTrips (movesOf plan hour))) ?_ gg.bh fun v B5 H5 g5 p5 => q v B5 H5 ((g1.trans gg).trans g5) p5)
      have ef : ((rowsN plan plan.length).mergeSort (PySem.W.dataLe false eTrip)).filterMap (fun t => if decide (t.1 < hour) = true then some t else none) = movesOf plan hour := by
        unfold movesOf
        rw [← List.filterMap_eq_filter]
        congr 1
      rw [← ef]
      have r22 := Dq.up (g1.bb.trans gg.bb) _ _ r2
      refine x_lc (l := (rowsN plan plan.length).mergeSort (PySem.W.dataLe false eTrip)) (enc := eTrip) (enc' := eTrip) (own := o58_0) ?_ _ ?_ ?_ rfl sc58.nd bk58_0
      · refine xi_list (x_sorted (enc := eTrip) (PySem.W.AllAlike.of alike_trip) (sortOk_trip (un10 hr)) ?_ rfl T.b_sorted (x_var 2 rfl pu))
        rw [rowsN_len, line_big]
        omega
      · intro i t v B' ea sb' hd
        apply lc_turn
        · rintro XB ⟨_, _, _, _, _, rfl⟩
          refine ⟨xg_name 7 sc58.nd, xts_one (XT.is (xt_cmp c_lt (x_ixT (x_var 7 rfl hd) x_int rfl) (x_var 1 rfl (Dq.up sb' _ _ r22))) ?_), fun r hr' => ?_⟩
          · rw [isSome_if]
            simp
          · obtain ⟨_, rfl⟩ : _ ∧ t = r := by simpa using hr'
            exact x_var 7 rfl hd
        · rfl
      · rw [List.length_mergeSort, rowsN_len, line_big]
        omega
end
end TW
/-! WH1: the end of a list's walk while an exception is handled. -/
namespace TW
open PySem PySem.Spec PyProof.Rows L2 HotX
open PySem.F
section
variable {prog : Program} {w : World} {A : Around} {E : Value → Shared → Prop} {s : Shared}
theorem pyNext_list_end_hot {it l x1 : Addr} {i : Nat} {items} {Q : Option Value → Shared → Prop} (hot : HotAt A x1 s.heap) (hit : s.heap.IsListIter it l i) (hl : s.heap.IsList l items) (hx : items[i]? = none)
    (hQ : ∀ h', (∀ b o, b ≠ it → s.heap.get? b = some o → h'.get? b = some o) → Q none { s with heap := h' }) : wpAny (model prog w) A (pyNext (.ref it)) Q E s := by
  obtain ⟨hh, o1, vs1, h1, d1, c1⟩ := hot
  obtain ⟨o, ho, hc, hd⟩ := id hit
  obtain ⟨ol, hol, _, nl, hdl⟩ := hl
  have nx : x1 ≠ it := by
    rintro rfl
    rw [h1] at ho
    cases ho
    rw [d1] at hd
    cases hd
    simp at c1
  unfold pyNext
  refine wpAny_bind (wpAny_attempt (wpAny_callSpecial?_slot (name := Str.ofString "__next__") hit.typeIs slot_listiter_next
    (wpAny_call_entry slot_listiter_next hit.typeIs entry_listiter_next ?_ (args_listiter_next _))))
  show wpAny _ _ (field (.ref it) 0 >>= _) _ _ s
  refine wpAny_bind (wpAny_field ho hd (x := .ref l) rfl ?_)
  show wpAny _ _ (if (Value.ref l == Value.none) = true then _ else _) _ _ s
  rw [if_neg (show ¬ ((Value.ref l == Value.none) = true) from Bool.false_ne_true)]
  show wpAny _ _ (field (.ref it) 1 >>= _) _ _ s
  refine wpAny_bind (wpAny_field ho hd (x := .int i 0) rfl ?_)
  show wpAny _ _ (seqItems? (.ref l) >>= _) _ _ s
  refine wpAny_bind (wpAny_seqItems hol hdl ?_)
  simp only [Int.toNat_natCast, hx]
  refine wpAny_bind (wpAny_rule (wpAny_bind (wpAny_setField ho hd (by simp) ?_)))
  show wpAny _ _ (newExc (.type "StopIteration") [] >>= _) _ _ _
  refine wpAny_bind ?_
  simp only [newExc, newTuple]
  refine wpAny_bind (wpAny_newObj_type ?_ (by size_fits))
  refine wpAny_bind (m := firstArgMember _ _) (wpAny_of_eq (a := Value.none) (by first | rfl | (simp only [firstArgMember]; rfl)) ?_)
  refine wpAny_newObj_type ?_ (by size_fits)
  have hu : ∀ b u, b ≠ it → s.heap.get? b = some u → ∀ f, (s.heap.update it f).get? b = some u := fun b u nb q f => by
    rw [Heap.get?_update_other _ _ (Ne.symm nb)]
    exact q
  refine raiseNew_hot ⟨hh, o1, vs1, Heap.get?_push_of_some _ (Heap.get?_push_of_some _ (hu _ _ nx h1 _)), d1, c1⟩ (Nat.ne_of_lt (Heap.lt_size (Heap.get?_push_of_some _ (hu _ _ nx h1 _)))) (Heap.get?_push_size _ rfl) rfl (by first | (simp; done) | (simp; omega) | (simp only [Array.size_append]; simp; omega)) ?_
  refine wpAny_bind (wpAny_isInstance (T := "StopIteration") (b := true) ⟨_, Heap.get?_update_self _ (Heap.get?_push_size _ rfl) rfl, rfl⟩ isSubtype_stop ?_)
  refine wpAny_pure (hQ _ fun b u nb q => ?_)
  rw [Heap.get?_update_other _ _ (Nat.ne_of_gt (Heap.lt_size (Heap.get?_push_of_some _ (hu b u nb q _))))]
  exact Heap.get?_push_of_some _ (Heap.get?_push_of_some _ (hu b u nb q _))
end
end TW
/-! WH2: for over a list while an exception is handled. -/
namespace TW
open PySem PySem.Spec PyProof.Rows L2 L2H HotX
theorem turn_listH {P : Program} {w : World} {K : PySem.W.Frag} {tg : Expr} (a it : Addr) : TurnH P w K tg (Itl K a) [it] it (fun i h => h.IsListIter it a i) where
  mem := by simp
  obj := fun i h st b hb => by
    obtain rfl : b = it := by simpa using hb
    obtain ⟨o, e, c, d⟩ := st
    exact ⟨o, e, fun v z => by rw [d] at z; cases z⟩
  keep := fun i h h' st k => st.at fun o e => k it (by simp) o e
  item := by
    intro X hP hw hK hc i pins s σ H E I hf st hg
    subst hP hw hK
    obtain ⟨xs, x, hq, hx⟩ := hg
    obtain ⟨its, rv, p, hz⟩ := I.list hq
    obtain ⟨u, hu, ru⟩ := rv.get hx
    obtain ⟨f0, f1, f2, f3, f4, f5⟩ := hf it (by simp)
    refine wpAny_pyNext_list_item st p.isList (x := u) (by simpa using hu) fun h' st' sb => ?_
    have I1 : L2.Inv X pins σ H { s with heap := h' } := I.turned (t' := s.toks) (fun b o hb e => (sb.2 b hb).trans e) f0 f1 f3 f4 f5
    obtain ⟨o, e, c, d⟩ := id st'
    exact ⟨u, rfl, go_of (s := { s with heap := h' }) e c d (by decide) ⟨x, H, I1, ru, ⟨rfl, fun ys hy => by rw [I.list_inj hy hq]; exact hx⟩, st', fun b hb => (hf b hb).1⟩⟩
  done := by
    intro X hP hw hK hc i pins s σ H E I hf st hg
    subst hP hw hK
    obtain ⟨xs, hq, hx⟩ := hg
    obtain ⟨its, rv, p, hz⟩ := I.list hq
    obtain ⟨f0, f1, f2, f3, f4, f5⟩ := hf it (by simp)
    obtain ⟨x1, hot⟩ := hc.at I
    have hl := rv.length
    exact pyNext_list_end_hot hot st p.isList (by simp; omega) fun h' eb => ⟨rfl, I.turned (t' := s.toks) (fun b o hb e => eb b o hb e) f0 f1 f3 f4 f5⟩
  self := fun _ _ _ _ _ st h => wpAny_pyIter_listiter st h
section
variable {X : Cx} {tg l : Expr} {tl : TE}
theorem pi_listH (hl : PE X l tl) : PIH X tg l (iList X.K tl) := by
  refine ⟨fun pins s σ H R I h => ?_⟩
  refine thn (hl.run pins s σ H _ I h) fun v s1 ⟨x, H1, I1, r1, q1⟩ => ?_
  obtain ⟨a, e, ⟨xs, hq⟩, q⟩ := q1
  subst e
  cases r1
  obtain ⟨its, rv, p, hz⟩ := I1.list hq
  refine wpAny_pyIter_list p.isList ?_
  refine ⟨s1.heap.objs.size, [s1.heap.objs.size], _, _, H1, rfl, I1.kept (t' := s1.toks) fun b o e => Heap.get?_push_of_some _ e, turn_listH a _, ⟨_, Heap.get?_push_size _ rfl, rfl, rfl⟩, fun b hb => ?_, q⟩
  obtain rfl : b = s1.heap.objs.size := by simpa using hb
  exact I1.fpOk (Nat.le_refl _) (I1.hok.fresh (Nat.le_refl _))
/-- what a walk wants, hot -/
def WIH (X : Cx) (tg iter : Expr) : TI := fun σ H R => ∀ (pins : List (Addr × Obj)) (s : Shared), L2.Inv X pins σ H s → wpAny (model X.prog X.w) X.A (eval iter X.env) (fun v s1 => wpAny (model X.prog X.w) X.A (pyIter v) (PIEH X pins σ tg R) X.xe s1) X.xe s
theorem piHW {iter : Expr} : PIH X tg iter (WIH X tg iter) := ⟨fun pins s _ _ _ I h => h pins s I⟩
theorem wih_of {iter : Expr} {t : TI} {σ : L2.St} {H : Hp} {R : It → Hp → Prop} (h : PIH X tg iter t) (q : t σ H R) : WIH X tg iter σ H R := fun pins s I => h.run pins s σ H R I q
end
end TW
/-! WH3: for over data, hot; calm or hot. -/
namespace TW
open PySem PySem.Spec PyProof.Rows L2
def XIH_ (X : Cx) (tg iter : Expr) (σ : L2.St) (B : Hp) (es : List PyData) : Prop := ∀ H, Same B H → ∀ R : It → Hp → Prop, (∀ J B' H', Gr B H B' H' → WalkD X.K J es B' → R J H') → WIH X tg iter σ H R
def XIatH (X : Cx) (tg iter : Expr) (σ : L2.St) (B H : Hp) (es : List PyData) : Prop := ∀ R : It → Hp → Prop, (∀ J B' H', Gr B H B' H' → WalkD X.K J es B' → R J H') → WIH X tg iter σ H R
section
variable {X : Cx} {tg iter e : Expr} {σ : L2.St} {B C H : Hp} {es ds : List PyData} {pos pp : Pos}
theorem xih_list (h : XE X iter σ B (DD X.K (.list es))) : XIH_ X tg iter σ B es := fun H s R k => by
  refine wih_of (pi_listH peW) (h H s _ fun v B1 H1 g1 p1 => ?_)
  obtain ⟨l, xs, rfl, h1, r1⟩ := Dq.lst_v p1
  refine ⟨l, rfl, ⟨xs, .of (g1.bh _ _ h1)⟩, k _ B1 H1 g1 ⟨fun i H2 s2 hi => ?_, fun H2 s2 => ⟨xs, .of (s2 _ _ h1), by rw [r1.length]; exact Nat.le_refl _⟩, fun i H2 x H3 s2 hi y => ?_⟩⟩
  · have hi' : i < xs.length := by rw [r1.length]; exact hi
    exact ⟨xs, xs[i], .of (s2 _ _ h1), by simp [hi']⟩
  · obtain ⟨rfl, y⟩ := y
    obtain ⟨d, e1, e2⟩ := r1.getV (y xs (.of (s2 _ _ h1)))
    exact ⟨d, B1, e1, .rfl s2, e2⟩
theorem pi_range2H {a b : Expr} {ta : TA} {p pos : Pos} (hg : Gl X "range") (hm : X.mg "range" = none) (ha : PA X [a, b] ta) (hs : starEach [a, b] X.env = [(false, eval a X.env), (false, eval b X.env)] := by rfl) (hs2 : starEach [b] X.env = [(false, eval b X.env)] := by rfl) :
    L2H.PIH X tg (.Call (.Name "range" p) [a, b] [] pos) (iRng2 ta) := by
  refine ⟨fun pins s σ H R I h => ?_⟩
  refine Call_ (ld_blt I hg hm boot_range (PyProof.Rows.callWith_type1 (thn (ha.run pos pins s σ H _ I h) fun us s1 ⟨vs, H1, I1, r1, q1⟩ => ?_) (by rw [hs, hs2]) (by rw [hs2]; rfl)))
  obtain ⟨i, j, e, ⟨q1, q2, q3, q4⟩, q⟩ := q1
  subst e
  cases r1 with
  | cons r rr =>
    cases rr with
    | cons r' rr =>
      cases rr
      obtain ⟨t, rfl⟩ := r
      obtain ⟨t', rfl⟩ := r'
      exact call_range_2 (L2H.range_itH I1 q1 q2 q3 q4 q)
theorem xih_range2 {a b : Expr} {m n : Int} (hg : Gl X "range") (hm : X.mg "range" = none) (h1 : XI X a σ B m) (h2 : XI X b σ B n) (hn : -1000000 ≤ m ∧ m ≤ 1000000 ∧ -1000000 ≤ n ∧ n ≤ 1000000)
    (hs1 : starEach [a, b] X.env = (false, eval a X.env) :: starEach [b] X.env := by rfl) (hs2 : starEach [b] X.env = (false, eval b X.env) :: starEach [] X.env := by rfl) (hs : starEach [a, b] X.env = [(false, eval a X.env), (false, eval b X.env)] := by rfl) (hs' : starEach [b] X.env = [(false, eval b X.env)] := by rfl) : XIH_ X tg (.Call (.Name "range" pp) [a, b] [] pos) σ B (rgD m (n - m).toNat) := fun H s R k => by
  refine wih_of (pi_range2H hg hm (pa_cons peW (pa_cons peW pa_nil hs2) hs1) hs hs') (h1 H s _ fun v B1 H1 g1 p1 => h2.up g1.bb H1 g1.bh _ fun u B2 H2 g2 p2 => ⟨m, n, by rw [Dq.int_v p1, Dq.int_v p2], by omega, k _ B2 H2 (g1.trans g2) walk_rg⟩)
theorem xih_range1 {n : Int} (hg : Gl X "range") (hm : X.mg "range" = none) (h : XI X e σ B n) (hn : 0 ≤ n ∧ n ≤ 1000000) (hs1 : starEach [e] X.env = (false, eval e X.env) :: starEach [] X.env := by rfl) (hs : starEach [e] X.env = [(false, eval e X.env)] := by rfl) : XIH_ X tg (.Call (.Name "range" pp) [e] [] pos) σ B (rgD 0 n.toNat) := fun H s R k => by
  refine wih_of (L2H.pi_range1H hg hm (pa_cons peW pa_nil hs1) hs) (h H s _ fun v B1 H1 g1 p1 => ⟨n, by rw [Dq.int_v p1], by omega, by omega, k _ B1 H1 g1 walk_rg⟩)
theorem ws_forBAH {α : Type} {l : List α} {enc : α → PyData} {body : List Stmt} {D : Ends} (hc : L2H.HotC X) (h : XIatH X tg iter σ B H (l.map enc))
    (cont : ∀ B1 H1, Gr B H B1 H1 → ∃ I : Nat → L2.St → Hp → Hp → Prop, I 0 σ B1 H1 ∧ (∀ i σ' B' H', I i σ' B' H' → Same B1 B' ∧ Same B' H') ∧
      (∀ i a v σ' B' H' B2 H2, l[i]? = some a → I i σ' B' H' → Gr B' H' B2 H2 → Dq X.K B2 v (enc a) → ∃ σ2, XG X tg v σ' B2 σ2 ∧ WSs X body { D with nx := fun σ3 H3 => ∃ B3, I (i + 1) σ3 B3 H3, ct := fun σ3 H3 => ∃ B3, I (i + 1) σ3 B3 H3, bk := D.nx } σ2 H2) ∧ ∀ σ' B' H', I l.length σ' B' H' → D.nx σ' H')
    (hp : PassesOwn (model X.prog X.w) X.A X.env X.xe := by exact PassesOwn.never) (hs : ∀ x, foldedSetIterable iter X.env x = pure x := by intro _; rfl) : WS X (.For tg iter body [] pos) D σ H := by
  refine ws_of (L2H.ps_forH hp hc piHW pgW pssW hs) (h _ fun J B1 H1 g1 w => ?_)
  obtain ⟨I, h0, hI, turn, done⟩ := cont B1 H1 g1
  refine ⟨fun i m σ' H' => m = l.length - i ∧ i ≤ l.length ∧ ∃ B', I i σ' B' H', ⟨l.length, by simp, Nat.zero_le _, B1, h0⟩, ?_⟩
  rintro i m σ' H' ⟨rfl, hi, B2, p⟩
  obtain ⟨s1, s2⟩ := hI i σ' B2 H' p
  have sb := s1.trans s2
  have el : (l.map enc).length = l.length := List.length_map ..
  by_cases hlt : i < l.length
  · refine .inr ⟨w.go i H' sb (by rw [el]; exact hlt), fun σ3 H3 => ∃ B3, I (i + 1) σ3 B3 H3, fun σ2 H2 p2 => ⟨l.length - (i + 1), by omega, rfl, hlt, p2⟩, fun x H2 y => ?_⟩
    obtain ⟨d, Bx, e1, gx, px⟩ := w.yld i H' x H2 sb (by rw [el]; exact hlt) y
    obtain ⟨a, ea, rfl⟩ : ∃ a, l[i]? = some a ∧ d = enc a := by
      rw [List.getElem?_map] at e1
      cases q : l[i]? with
      | none => rw [q] at e1; cases e1
      | some a =>
        rw [q] at e1
        exact ⟨a, rfl, (Option.some.inj e1).symm⟩
    have gu := gx.wide s1 s2
    obtain ⟨σ2, hg, q⟩ := turn i a x σ' B2 H' _ H2 ea p gu (Dq.up uni_l _ _ px)
    exact hg H2 gu.bh _ q
  · have e : i = l.length := by omega
    subst e
    exact .inl ⟨by have z := w.stop H' sb; rw [el] at z; exact z, done σ' B2 H' p⟩
/-- calm, or an exception is handled -/
def CH (X : Cx) : Prop := X.calm = true ∨ L2H.HotC X
def XIB (X : Cx) (tg iter : Expr) (σ : L2.St) (B : Hp) (es : List PyData) : Prop := XI_ X tg iter σ B es ∧ XIH_ X tg iter σ B es
theorem xib_list (h : XE X iter σ B (DD X.K (.list es))) : XIB X tg iter σ B es := ⟨xi_list h, xih_list h⟩
theorem xib_range1 {n : Int} (hg : Gl X "range") (hm : X.mg "range" = none) (h : XI X e σ B n) (hn : 0 ≤ n ∧ n ≤ 1000000) (hs1 : starEach [e] X.env = (false, eval e X.env) :: starEach [] X.env := by rfl) (hs : starEach [e] X.env = [(false, eval e X.env)] := by rfl) : XIB X tg (.Call (.Name "range" pp) [e] [] pos) σ B (rgD 0 n.toNat) :=
  ⟨xi_range1 hg hm h hn hs1 hs, xih_range1 hg hm h hn hs1 hs⟩
theorem ws_forG {α : Type} {l : List α} {enc : α → PyData} {body : List Stmt} {D : Ends} (hc : CH X) (h : XIB X tg iter σ B (l.map enc)) (s : Same B H)
    (cont : ∀ B1 H1, Gr B H B1 H1 → ∃ I : Nat → L2.St → Hp → Hp → Prop, I 0 σ B1 H1 ∧ (∀ i σ' B' H', I i σ' B' H' → Same B1 B' ∧ Same B' H') ∧
      (∀ i a v σ' B' H' B2 H2, l[i]? = some a → I i σ' B' H' → Gr B' H' B2 H2 → Dq X.K B2 v (enc a) → ∃ σ2, XG X tg v σ' B2 σ2 ∧ WSs X body { D with nx := fun σ3 H3 => ∃ B3, I (i + 1) σ3 B3 H3, ct := fun σ3 H3 => ∃ B3, I (i + 1) σ3 B3 H3, bk := D.nx } σ2 H2) ∧ ∀ σ' B' H', I l.length σ' B' H' → D.nx σ' H')
    (hp : PassesOwn (model X.prog X.w) X.A X.env X.xe := by exact PassesOwn.never) (hs : ∀ x, foldedSetIterable iter X.env x = pure x := by intro _; rfl) : WS X (.For tg iter body [] pos) D σ H := by
  rcases hc with hc | hc
  · exact ws_forBA hc (fun R k => h.1 H s R k) cont hp hs
  · exact ws_forBAH hc (fun R k => h.2 H s R k) cont hp hs
end
end TW
/-! WH4: the end of a tuple's walk while an exception is handled. -/
namespace TW
open PySem PySem.Spec PyProof.Rows L2 HotX
open PySem.F
section
variable {prog : Program} {w : World} {A : Around} {E : Value → Shared → Prop} {s : Shared}
theorem pyNext_tuple_end_hot {it t x1 : Addr} {i : Nat} {items} {Q : Option Value → Shared → Prop} (hot : HotAt A x1 s.heap) (hit : s.heap.IsTupleIter it t i) (ht : s.heap.IsTuple t items) (hx : items[i]? = none)
    (hQ : ∀ h', (∀ b o, b ≠ it → s.heap.get? b = some o → h'.get? b = some o) → Q none { s with heap := h' }) : wpAny (model prog w) A (pyNext (.ref it)) Q E s := by
  obtain ⟨hh, o1, vs1, h1, d1, c1⟩ := hot
  obtain ⟨o, ho, hc, hd⟩ := id hit
  obtain ⟨ol, hol, _, nl, hdl⟩ := ht
  have nx : x1 ≠ it := by
    rintro rfl
    rw [h1] at ho
    cases ho
    rw [d1] at hd
    cases hd
    simp at c1
  unfold pyNext
  refine wpAny_bind (wpAny_attempt (wpAny_callSpecial?_slot (name := Str.ofString "__next__") hit.typeIs F.slot_tuple_iterator_next
    (wpAny_call_entry F.slot_tuple_iterator_next hit.typeIs F.entry_tuple_iterator_next ?_ (F.args_tuple_iterator_next_1 _))))
  show wpAny _ _ (field (.ref it) 0 >>= _) _ _ s
  refine wpAny_bind (wpAny_field ho hd (x := .ref t) rfl ?_)
  show wpAny _ _ (if (Value.ref t == Value.none) = true then _ else _) _ _ s
  rw [if_neg (show ¬ ((Value.ref t == Value.none) = true) from Bool.false_ne_true)]
  show wpAny _ _ (field (.ref it) 1 >>= _) _ _ s
  refine wpAny_bind (wpAny_field ho hd (x := .int i 0) rfl ?_)
  show wpAny _ _ (seqItems? (.ref t) >>= _) _ _ s
  refine wpAny_bind (wpAny_seqItems hol hdl ?_)
  simp only [Int.toNat_natCast, hx]
  refine wpAny_bind (wpAny_rule (wpAny_bind (wpAny_setField ho hd (by simp) ?_)))
  show wpAny _ _ (newExc (.type "StopIteration") [] >>= _) _ _ _
  refine wpAny_bind ?_
  simp only [newExc, newTuple]
  refine wpAny_bind (wpAny_newObj_type ?_ (by size_fits))
  refine wpAny_bind (m := firstArgMember _ _) (wpAny_of_eq (a := Value.none) (by first | rfl | (simp only [firstArgMember]; rfl)) ?_)
  refine wpAny_newObj_type ?_ (by size_fits)
  have hu : ∀ b u, b ≠ it → s.heap.get? b = some u → ∀ f, (s.heap.update it f).get? b = some u := fun b u nb q f => by
    rw [Heap.get?_update_other _ _ (Ne.symm nb)]
    exact q
  refine raiseNew_hot ⟨hh, o1, vs1, Heap.get?_push_of_some _ (Heap.get?_push_of_some _ (hu _ _ nx h1 _)), d1, c1⟩ (Nat.ne_of_lt (Heap.lt_size (Heap.get?_push_of_some _ (hu _ _ nx h1 _)))) (Heap.get?_push_size _ rfl) rfl (by first | (simp; done) | (simp; omega) | (simp only [Array.size_append]; simp; omega)) ?_
  refine wpAny_bind (wpAny_isInstance (T := "StopIteration") (b := true) ⟨_, Heap.get?_update_self _ (Heap.get?_push_size _ rfl) rfl, rfl⟩ isSubtype_stop ?_)
  refine wpAny_pure (hQ _ fun b u nb q => ?_)
  rw [Heap.get?_update_other _ _ (Nat.ne_of_gt (Heap.lt_size (Heap.get?_push_of_some _ (hu b u nb q _))))]
  exact Heap.get?_push_of_some _ (Heap.get?_push_of_some _ (hu b u nb q _))
end
end TW
/-! WH5: unpacking; the end of a tuple's walk while an exception is handled. -/
namespace TW
open PySem PySem.Spec PyProof.Rows L2 HotX
open PySem.F
section
variable {prog : Program} {w : World} {A : Around} {E : Value → Shared → Prop} {s : Shared}
theorem next_tuple_end_hot {it t x1 : Addr} {i : Nat} {items} {Q : Option Value → Shared → Prop} (hot : HotAt A x1 s.heap) (hit : IsTupIter s.heap it t i) (ht : IsTup s.heap t items) (hx : items[i]? = none)
    (hQ : ∀ h', (∀ b o, b ≠ it → s.heap.get? b = some o → h'.get? b = some o) → Q none { s with heap := h' }) : wpAny (model prog w) A (pyNext (.ref it)) Q E s := by
  obtain ⟨hh, o1, vs1, h1, d1, c1⟩ := hot
  obtain ⟨o, ho, hc, hd⟩ := id hit
  obtain ⟨ol, hol, _, nl, hdl⟩ := ht
  have nx : x1 ≠ it := by
    rintro rfl
    rw [h1] at ho
    cases ho
    rw [d1] at hd
    cases hd
    simp at c1
  unfold pyNext
  refine wpAny_bind (wpAny_attempt (wpAny_callSpecial?_slot (name := Str.ofString "__next__") hit.typeIs slot_tupleiter_next
    (wpAny_call_entry slot_tupleiter_next hit.typeIs entry_tupleiter_next ?_ (args_tupleiter_next _))))
  show wpAny _ _ (field (.ref it) 0 >>= _) _ _ s
  refine wpAny_bind (wpAny_field ho hd (x := .ref t) rfl ?_)
  show wpAny _ _ (if (Value.ref t == Value.none) = true then _ else _) _ _ s
  rw [if_neg (show ¬ ((Value.ref t == Value.none) = true) from Bool.false_ne_true)]
  show wpAny _ _ (field (.ref it) 1 >>= _) _ _ s
  refine wpAny_bind (wpAny_field ho hd (x := .int i 0) rfl ?_)
  show wpAny _ _ (seqItems? (.ref t) >>= _) _ _ s
  refine wpAny_bind (wpAny_seqItems hol hdl ?_)
  simp only [Int.toNat_natCast, hx]
  refine wpAny_bind (wpAny_rule (wpAny_bind (wpAny_setField ho hd (by simp) ?_)))
  show wpAny _ _ (newExc (.type "StopIteration") [] >>= _) _ _ _
  refine wpAny_bind ?_
  simp only [newExc, newTuple]
  refine wpAny_bind (wpAny_newObj_type ?_ (by size_fits))
  refine wpAny_bind (m := firstArgMember _ _) (wpAny_of_eq (a := Value.none) (by first | rfl | (simp only [firstArgMember]; rfl)) ?_)
  refine wpAny_newObj_type ?_ (by size_fits)
  have hu : ∀ b u, b ≠ it → s.heap.get? b = some u → ∀ f, (s.heap.update it f).get? b = some u := fun b u nb q f => by
    rw [Heap.get?_update_other _ _ (Ne.symm nb)]
    exact q
  refine raiseNew_hot ⟨hh, o1, vs1, Heap.get?_push_of_some _ (Heap.get?_push_of_some _ (hu _ _ nx h1 _)), d1, c1⟩ (Nat.ne_of_lt (Heap.lt_size (Heap.get?_push_of_some _ (hu _ _ nx h1 _)))) (Heap.get?_push_size _ rfl) rfl (by first | (simp; done) | (simp; omega) | (simp only [Array.size_append]; simp; omega)) ?_
  refine wpAny_bind (wpAny_isInstance (T := "StopIteration") (b := true) ⟨_, Heap.get?_update_self _ (Heap.get?_push_size _ rfl) rfl, rfl⟩ isSubtype_stop ?_)
  refine wpAny_pure (hQ _ fun b u nb q => ?_)
  rw [Heap.get?_update_other _ _ (Nat.ne_of_gt (Heap.lt_size (Heap.get?_push_of_some _ (hu b u nb q _))))]
  exact Heap.get?_push_of_some _ (Heap.get?_push_of_some _ (hu b u nb q _))
theorem unpackItems_hot {t x1 : Addr} {items : Array Value} {Q : List Value → Shared → Prop} (hot : HotAt A x1 s.heap) (ht : IsTup s.heap t items)
    (hQ : ∀ h', Heap.ExtBut s.heap.objs.size s.heap h' → Q items.toList { s with heap := h' }) : wpAny (model prog w) A (unpackItems (.ref t) items.size none) Q E s := by
  have hlt : t ≠ s.heap.objs.size := by obtain ⟨o, ho, _⟩ := ht; exact Nat.ne_of_lt (Heap.lt_size ho)
  obtain ⟨hh, o1, vs1, h1, d1, c1⟩ := hot
  have nx : x1 ≠ s.heap.objs.size := Nat.ne_of_lt (Heap.lt_size h1)
  unfold unpackItems
  refine wpAny_bind ?_
  · unfold notIterableAtAll
    refine wpAny_bind (wpAny_specialOf ht.typeIs PyProof.Rows.slot_tuple_iter.lookup ?_)
    refine wpAny_pure ?_
    simp only [Bool.false_eq_true, if_false]
    refine wpAny_bind (wpAny_holding (iter_tuple ht ?_))
    refine wpAny_bind (wpAny_holding (draw_tuple hlt items.size 0 _ _ ⟨_, Heap.get?_push_size _ rfl, rfl, rfl⟩ (ht.push _) (by omega) fun h₁ hit₁ hs₁ => ?_))
    have hall : List.take items.size (List.drop 0 items.toList) = items.toList := by
      rw [List.drop_zero]; exact List.take_of_length_le (by simp)
    rw [hall]
    rw [if_neg (by simp)]
    have ht₁ : IsTup h₁ t items := (ht.push _).extBut hs₁.extBut hlt
    refine wpAny_bind (wpAny_holding (next_tuple_end_hot (x1 := x1) ⟨hh, o1, vs1, hs₁.extBut _ _ nx (Heap.get?_push_of_some _ h1), d1, c1⟩ hit₁ ht₁ (by simp) fun h₂ he₂ => ?_))
    simp only [Option.isSome_none, Bool.false_eq_true, if_false]
    refine wpAny_pure (hQ h₂ fun b o hb e => he₂ b o hb (hs₁.extBut b o hb (Heap.get?_push_of_some _ e)))
theorem assign_tup_hot {env : Env} {elts : List Expr} {kk} {pos : Pos} {t x1 : Addr} {items : Array Value} {Q : Unit → Shared → Prop} (hot : HotAt A x1 s.heap) (ht : IsTup s.heap t items)
    (hn : (assignEach elts env).length = items.size) (hstar : (assignEach elts env).findIdx? (·.1) = none)
    (h : ∀ h', Heap.ExtBut s.heap.objs.size s.heap h' → wpAny (model prog w) A (assignInOrder ((assignEach elts env).map (·.2)) items.toList) Q E { s with heap := h' }) :
    wpAny (model prog w) A (assign (.Tuple elts kk pos) env (.ref t)) Q E s := by
  rw [assign_Tuple]
  refine wpAny_bind (wpAny_standAt ?_)
  unfold unpack
  rw [hn, hstar]
  exact wpAny_bind (wpAny_holding (unpackItems_hot hot ht h))
end
section
variable {X : Cx} {pos : Pos}
theorem pg_tupH {es : List Expr} {k : Nat} {t : TGs} {n : Nat} (hc : L2H.HotC X) (h : PGs X es t)
    (hn : (assignEach es X.env).length = n := by rfl) (hst : (assignEach es X.env).findIdx? (·.1) = none := by rfl) : PG X (.Tuple es k pos) (gTup X.K n t) := by
  refine ⟨fun pins s σ H v u Q I r hw => ?_⟩
  obtain ⟨a, xs, e1, hq, hl, hw⟩ := hw
  subst e1
  cases r
  obtain ⟨its, rv, ht, hz⟩ := I.tuple hq
  obtain ⟨x1, hot⟩ := hc.at I
  refine assign_tup_hot hot ht (by simp [hn, ← hl, rv.length]) hst fun h' hx => ?_
  have I1 : L2.Inv X pins σ H { s with heap := h' } := I.kept (t' := s.toks) fun b o e => hx b o (Nat.ne_of_lt (Heap.lt_size e)) e
  exact h.run pins _ σ H xs _ Q I1 (by simpa using rv) hw
theorem pg_tupC {es : List Expr} {k : Nat} {t : TGs} {n : Nat} (hc : CH X) (h : PGs X es t)
    (hn : (assignEach es X.env).length = n := by rfl) (hst : (assignEach es X.env).findIdx? (·.1) = none := by rfl) : PG X (.Tuple es k pos) (gTup X.K n t) := by
  rcases hc with hc | hc
  · exact pg_tup hc h hn hst
  · exact pg_tupH hc h hn hst
end
end TW
/-! WH6: unpacking, calm or hot, on data. -/
namespace TW
open PySem PySem.Spec PyProof.Rows L2
section
variable {X : Cx} {σ : L2.St} {B : Hp} {pos : Pos}
theorem xg_tupC {ts : List Expr} {k : Nat} {a : Addr} {vs : List V} {σ2 : L2.St} (hc : CH X) (hq : SqT X.K B a vs) (h : XGs X ts vs σ B σ2) (hn : (assignEach ts X.env).length = vs.length := by rfl) (hst : (assignEach ts X.env).findIdx? (·.1) = none := by rfl) : XG X (.Tuple ts k pos) (.ref a) σ B σ2 := fun H s Q k => by
  have p : PGs X ts (fun ws σ' H' R => ∀ (pins : List (Addr × Obj)) (s : Shared) (us : List Value), Inv X pins σ' H' s → Vals ws us → wpAny (model X.prog X.w) X.A (assignInOrder ((assignEach ts X.env).map (·.2)) us) (fun _ s' => ∃ σ' H', Inv X pins σ' H' s' ∧ R σ' H') X.xe s) := ⟨fun pins s _ _ _ us _ I r h => h pins s us I r⟩
  exact wg_of (pg_tupC hc p hn hst) ⟨a, vs, rfl, Same.seqT s hq, rfl, h H s Q k⟩
end
end TW
/-! WH7: any, hot. -/
namespace TW
open PySem PySem.Spec PyProof.Rows L2 HotX
theorem walks_list_hot {prog : Program} {w : World} {A : Around} (I ax x1 : Addr) (hne : ax ≠ I) (nx : x1 ≠ I) (items : Array Value) :
    Walks prog w A I [I, ax, x1] [I] items.size (fun i v => items[i]? = some v) (fun i h => h.IsListIter I ax i ∧ h.IsList ax items ∧ HotAt A x1 h) where
  sub := fun b hb => by simp at hb; simp [hb]
  frame := fun _ _ _ st hk => ⟨st.1.at fun o e => hk I (by simp) o e, st.2.1.at fun o e => hk ax (by simp) o e, st.2.2.1, by
    obtain ⟨o, vs, h1, h2, h3⟩ := st.2.2.2
    exact ⟨o, vs, hk x1 (by simp) o h1, h2, h3⟩⟩
  item := fun i s Q E hi st hQ => by
    refine wpAny_pyNext_list_item st.1 st.2.1 (x := items[i]) (by simp [hi]) fun h' hit' hs' => ?_
    obtain ⟨o, vs, h1, h2, h3⟩ := st.2.2.2
    exact hQ _ h' s.toks (by simp [hi]) ⟨hit', st.2.1.extBut hs'.extBut hne, st.2.2.1, o, vs, hs'.extBut _ _ nx h1, h2, h3⟩ fun b o hb e => hs'.extBut b o (fun h => hb (by simp [h])) e
  done := fun s Q E st hQ => pyNext_list_end_hot st.2.2 st.1 st.2.1 (by simp) fun h' he' => hQ h' s.toks fun b o hb e => he' b o (fun h => hb (by simp [h])) e
  self := fun _ _ _ _ st hQ => wpAny_pyIter_listiter st.1 hQ
section
variable {X : Cx}
theorem cr_anyH (hc : L2H.HotC X) : CallR X (.builtin "any") (rAny X.K) := by
  intro pins s σ H vs us Q I r h
  obtain ⟨a, bs, rfl, hs, q⟩ := h
  obtain ⟨its, rv, hl, _⟩ := I.list hs
  rw [Vals.ref1 r]
  have hb := rv.bls
  obtain ⟨x1, hot⟩ := hc.at I
  obtain ⟨o1, vs1, h1, h2, h3⟩ := hot.2
  refine call_any_walk (iter_any hl.isList fun s₂ e2 st hne => ?_)
  subst e2
  refine ⟨_, _, _, _, _, _, _, rfl, walks_list_hot (A := X.A.in1) _ a x1 hne (Nat.ne_of_lt (Heap.lt_size h1)) its.toArray, ⟨st.1, st.2, hot.1, o1, vs1, Heap.get?_push_of_some _ h1, h2, h3⟩, truth_bools hb, fun h' tk hk => ?_⟩
  refine ⟨.bl _, H, I.kept fun b o eo => hk b o (fun hmem => ?_) (Heap.get?_push_of_some _ eo), ?_, q⟩
  · rcases List.mem_cons.mp hmem with e1 | hmem
    · exact absurd (e1 ▸ Heap.lt_size eo) (Nat.lt_irrefl _)
    · cases hmem
  · show Value.bool _ = Value.bool _
    rw [← L2.any_range, hb, List.size_toArray, List.length_map]
theorem cr_anyC (hc : CH X) : CallR X (.builtin "any") (rAny X.K) := hc.elim cr_any cr_anyH
end
end TW
/-! WH8: comprehension, hot. -/
namespace L2
open PySem PySem.Spec PyProof.Rows
section
variable {X : Cx}
/-- the block's context, the handled exception kept -/
abbrev Cx.blkH (X : Cx) (s : Shared) (H : Hp) (scope : Scope) (cenv : Env) (fp : List Addr) : Cx := { X with s_0 := s, H_0 := H, env := cenv, outer := X.stack, ex := fp, fn := fun x => scope.names.lookup x == some .cell, pn := X.pn, xe := fun _ _ => False }
theorem Inv.blkH {pins : List (Addr × Obj)} {σ σ' : St} {H H' : Hp} {s s' : Shared} {scope : Scope} {cenv : Env} {fp : List Addr} (J : Inv (X.blk s H scope cenv fp) [] σ' H' s') (I : Inv X pins σ H s) (hL : cenv.locals = s.heap.objs.size) (kp : ∀ b o, s.heap.get? b = some o → s'.heap.get? b = some o) (hH : ∀ b, b < s.heap.objs.size → H b = none → H' b = none) :
    Inv (X.blkH s H scope cenv fp) [] σ' H' s' := by
  obtain ⟨k, os, bare, base, loc, cell, free, freeC, pin, hok, len⟩ := J
  refine ⟨⟨k.mod, k.kind, k.glob, k.blt, k.above, k.inj, k.has, k.cab, k.hd, k.frames, k.stk, k.exf, k.bs, k.bsz, k.noex, k.exfs, k.funs, k.frf⟩, os, bare, base, loc, cell, free, freeC, fun p hp => ?_, hok, len⟩
  have hp' : p ∈ X.pn := by simpa using hp
  obtain ⟨h1, h2, h3, h4, h5⟩ := I.pin p (List.mem_append_left _ hp')
  refine ⟨kp _ _ h1, hH _ (Heap.lt_size h1) h2, ?_, ?_, h5⟩
  · show p.1 ≠ cenv.locals
    rw [hL]
    exact Nat.ne_of_lt (Heap.lt_size h1)
  · show p.1 ∉ frs X.stack
    rcases I.ok.stk with e | ⟨e, f⟩
    · rw [e]
      exact h4
    · rw [e]
      intro m
      unfold frs at m
      rw [List.filterMap_cons, f] at m
      rcases List.mem_cons.mp m with z | z
      · exact h3 z
      · exact h4 z
theorem lc_coreH {pins : List (Addr × Obj)} {s : Shared} {σ : St} {H : Hp} {Q : VK} {elt tg iter : Expr} {ifs : List Expr} {scope : Scope} {own : List (Str × Nat)} {pos pos' : Pos} {wi : TI} {g : TG} {tt : TT} {te : TE} {use : Option (Value → Sem Unit)} {Qf : Value → Shared → Prop}
    (hc : L2H.HotC X) (hN : X.N.Nodup) (I : Inv X pins σ H s) (hi : L2H.PIH X tg iter wi) (ok : BlkOk X.N X.env.scope scope own)
    (hg : ∀ (s : Shared) (H : Hp) (C : Addr) (cl : List (Str × Addr)) (fp : List Addr), PG (X.blkH s H scope (compEnvC scope cl C X.env) fp) tg g) (ht : ∀ (s : Shared) (H : Hp) (C : Addr) (cl : List (Str × Addr)) (fp : List Addr), PTs (X.blkH s H scope (compEnvC scope cl C X.env) fp) ifs tt)
    (he : ∀ (s : Shared) (H : Hp) (C : Addr) (cl : List (Str × Addr)) (fp : List Addr), PE (X.blkH s H scope (compEnvC scope cl C X.env) fp) elt te) (hs : ∀ x, foldedSetIterable iter X.env x = pure x)
    (h : tLc wi g tt te (own.map (·.2)) σ H Q)
    (hRR : ∀ D C s' m H', Inv X pins σ H' s' → Q (.ref D) H' → s'.heap.Ns C m → FpOk X pins H' C → compPost (model X.prog X.w) X.A X.xe use Qf (.ref D) C (.ok .next) s') :
    wpAny (model X.prog X.w) X.A (comprehension (.ListComp elt [⟨tg, iter, ifs, 0⟩] scope pos) scope X.env pos' (newList []) false (eval iter X.env) use) Qf X.xe s := by
  have hfree : ∀ y ∈ scope.names, y.2 = .free → ∃ c, X.env.cells.lookup y.1 = some c := fun y hy e => by
    rcases ok.free y hy e with k | k
    · exact I.ok.has _ (.inl k)
    · exact I.ok.has _ (.inr k)
  refine wpAny_comprehension_free (use := use) rfl hs (closure_ok hfree) ok.kind (fun y hy e => by rw [ok.uniq y hy, e])
    (thn (hi.run pins s σ H _ I h) fun xv s1 hx => thn hx fun itv s2 h2 => ?_)
  obtain ⟨it, fp, tn, J, H2, e, I2, T, st2, f2, q⟩ := h2
  subst e
  refine wpAny_newObj_type (newEnv_comp ?_) (by show 0 ≤ sizeLine; decide)
  generalize hD : s2.heap.objs.size = D
  have hDn : H2 D = none := I2.hok.fresh (Nat.le_of_eq hD)
  obtain ⟨W, ⟨m0, w0⟩, turn⟩ := q D hDn
  -- the new list
  generalize hs3 : ({ s2 with heap := s2.heap.push { cls := .type "list", data := .seq ([] : List Value).toArray } } : Shared) = s3
  have I3 : Inv X pins σ (upd H2 D (.lst [])) s3 := by
    rw [← hs3]
    refine I2.laid (t' := s2.toks) (fun b o e => Heap.get?_push_of_some _ e) (Nat.le_of_eq hD) ⟨Nat.zero_le _, [], 0, .nil, ?_⟩
    rw [← hD]
    exact Heap.get?_push_size _ rfl
  have h3 : s3.heap = s2.heap.push { cls := .type "list", data := .seq ([] : List Value).toArray } := by rw [← hs3]
  have sz : ∀ b ∈ fp, b < s2.heap.objs.size := fun b hb => by
    obtain ⟨o, e, _⟩ := T.obj _ _ st2 b hb
    exact Heap.lt_size e
  have f3 : ∀ b ∈ fp, FpOk X pins (upd H2 D (.lst [])) b ∧ b < s3.heap.objs.size := fun b hb => by
    have hlt := sz b hb
    refine ⟨⟨?_, (f2 b hb).2⟩, by rw [h3, Heap.size_push]; exact Nat.lt_succ_of_lt hlt⟩
    rw [upd_ne (by rw [← hD]; exact Nat.ne_of_lt hlt)]
    exact (f2 b hb).1
  have st3 : tn 0 s3.heap := T.keep _ _ _ st2 fun b _ o e => by rw [h3]; exact Heap.get?_push_of_some _ e
  have I4 := (block_start I3 ok hN f3).blkH I3 rfl (fun b o e => pushCells_keeps _ _ _ _ (Heap.get?_push_of_some _ e)) (fun _ _ z => z)
  have pg := hg s3 (upd H2 D (.lst [])) s3.heap.objs.size (cellsFrom (s3.heap.objs.size + 1) scope.names (cloFrom X.env.cells scope.names [])) fp
  have pt := ht s3 (upd H2 D (.lst [])) s3.heap.objs.size (cellsFrom (s3.heap.objs.size + 1) scope.names (cloFrom X.env.cells scope.names [])) fp
  have pe := he s3 (upd H2 D (.lst [])) s3.heap.objs.size (cellsFrom (s3.heap.objs.size + 1) scope.names (cloFrom X.env.cells scope.names [])) fp
  show codeAny _ _ (.compStart (.ListComp elt [⟨tg, iter, ifs, 0⟩] scope pos) 0 (.ref it) (.ref D) (compEnvC scope (cellsFrom (s3.heap.objs.size + 1) scope.names (cloFrom X.env.cells scope.names [])) s3.heap.objs.size X.env)) (compPost (model X.prog X.w) X.A X.xe use Qf (.ref D) s3.heap.objs.size) { s3 with heap := pushCells (s3.heap.push { cls := .type "dict", data := .dict #[] }) scope.names }
  have nfp : ∀ b ∈ fp, (upd H2 D (.lst [])) b = none := fun b hb => (f3 b hb).1.1
  generalize hce : compEnvC scope (cellsFrom (s3.heap.objs.size + 1) scope.names (cloFrom X.env.cells scope.names [])) s3.heap.objs.size X.env = ce at I4 pg pt pe ⊢
  have cL : ce.locals = s3.heap.objs.size := by subst hce; rfl
  generalize hH3 : upd H2 D (.lst []) = H3 at I3 I4 pg pt pe w0 nfp f3
  generalize hs4 : ({ s3 with heap := pushCells (s3.heap.push { cls := .type "dict", data := .dict #[] }) scope.names } : Shared) = s4 at I4 ⊢
  have st4 : tn 0 s4.heap := T.keep _ _ _ st3 fun b _ o e => by rw [← hs4]; exact pushCells_keeps _ _ _ _ (Heap.get?_push_of_some _ e)
  have stat : ∀ {σ' : St} {H' : Hp} {s' : Shared}, Inv (X.blkH s3 H3 scope ce fp) [] σ' H' s' → (∀ b ∈ fp, H' b = none) → ∀ b ∈ fp, FpOk (X.blkH s3 H3 scope ce fp) [] H' b := fun {σ' H' s'} I' hn b hb =>
    ⟨hn b hb, (I'.ok.exf b hb).1, I'.ok.exfs b hb, .inl hb, fun x c e => (I'.ok.exf b hb).2 x c e, fun p hp => (f3 b hb).1.2.2.2.2.2 p (List.mem_append_left _ (by simpa using hp))⟩
  have loop : codeAny (model X.prog X.w) X.A (.compLoop (.ListComp elt [⟨tg, iter, ifs, 0⟩] scope pos) 0 (.ref it) (.ref D) ce) (compPost (model X.prog X.w) X.A X.xe use Qf (.ref D) s3.heap.objs.size) s4 := by
    refine compLoop_any (fun n s' => ∃ i H', Inv (X.blkH s3 H3 scope ce fp) [] (wipe σ (own.map (·.2))) H' s' ∧ tn i s'.heap ∧ (∀ b ∈ fp, H' b = none) ∧ W i n H') ?_ m0 ⟨0, H3, I4, st4, nfp, w0⟩
    rintro n s5 ⟨i, H5, I5, st5, n5, w5⟩
    rcases turn i n H5 w5 with ⟨stop, qq⟩ | ⟨go, Nx, hNx, step⟩
    · have td := T.done (X.blkH s3 H3 scope ce fp) rfl rfl rfl hc i [] s5 _ H5 (fun _ _ => False) I5 (stat I5 n5) st5 stop
      refine thnF td fun r s6 ⟨hr, I6⟩ => ?_
      subst hr
      -- back in the def's context
      have I7 : Inv X pins σ H5 s6 := I3.call' (ch := fp) I6.os I6.base I6.hok I6.bare fun b hb => ⟨(f3 b hb).1.2.2.2.1, (f3 b hb).1.2.1, (f3 b hb).1.2.2.2.2.1, (f3 b hb).1.2.2.2.2.2⟩
      have nC : H5 s3.heap.objs.size = none := by
        have z : H5 ce.locals = none := I6.free
        rw [cL] at z
        exact z
      obtain ⟨m, hn, _⟩ := I6.loc
      have hn : s6.heap.Ns ce.locals m := hn
      rw [cL] at hn
      exact hRR D s3.heap.objs.size s6 m H5 I7 qq hn (I3.fpOk (Nat.le_refl _) nC)
    · have ti := T.item (X.blkH s3 H3 scope ce fp) rfl rfl rfl hc i [] s5 _ H5 (fun _ _ => False) I5 (stat I5 n5) st5 go
      refine thnF ti fun r s6 ⟨u, hr, h6⟩ => ?_
      subst hr
      refine thnF h6 fun _ s7 ⟨x, H7, I7, r7, y7, st7, n7⟩ => ?_
      have I7' := I7.pinned (stat I7 n7) (T.obj _ _ st7)
      refine thnF (pg.run _ s7 _ H7 x u _ I7' r7 (step x H7 y7)) fun _ s8 ⟨σ8, H8, I8, hw8, q8⟩ => ?_
      refine thnF (pt.run _ s8 σ8 H8 _ I8 q8) fun b s9 ⟨H9, I9, q9⟩ => ?_
      -- the turn's end
      have fin : ∀ {s' : Shared} {H' : Hp}, Inv (X.blkH s3 H3 scope ce fp) ([] ++ pinsAt fp s7.heap) σ8 H' s' → Nx H' → ∃ m, m < n ∧ ∃ i H', Inv (X.blkH s3 H3 scope ce fp) [] (wipe σ (own.map (·.2))) H' s' ∧ tn i s'.heap ∧ (∀ b ∈ fp, H' b = none) ∧ W i m H' := fun {s' H'} I' nx => by
        obtain ⟨m', hm, w'⟩ := hNx H' nx
        have pin' : ∀ b ∈ fp, ∀ o, s7.heap.get? b = some o → s'.heap.get? b = some o ∧ H' b = none := fun b hb o e =>
          let z := I'.pin (b, o) (List.mem_append_right _ (List.mem_append_right _ (mem_pinsAt hb e)))
          ⟨z.1, z.2.1⟩
        have hl : (wipe σ (own.map (·.2))).length = σ8.length := by rw [← hw8, wipe_length]
        refine ⟨m', hm, i + 1, H', (I'.unpinned (pins := [])).weak hl (fun j v e => ?_), T.keep _ _ _ st7 fun b hb o e => (pin' b hb o e).1, fun b hb => ?_, w'⟩
        · rw [← hw8] at e
          exact (wipe_some e).1
        · obtain ⟨o, e, _⟩ := T.obj _ _ st7 b hb
          exact (pin' b hb o e).2
      cases b with
      | false =>
        simp only [Bool.false_eq_true, if_false] at q9 ⊢
        exact fin I9 q9
      | true =>
        simp only [if_true] at q9 ⊢
        refine thnF (pe.run _ s9 σ8 H9 _ I9 q9) fun z s10 ⟨yv, H10, I10, r10, acc, hD10, hz10, nx⟩ => ?_
        exact app_ok (X := X.blkH s3 H3 scope ce fp) I10 hD10 hz10 r10 fun s11 I11 => fin I11 nx
  exact codeAny_compStart_list loop (T.self X.A 0 _ _ _ st4 loop)
theorem pe_lcH {elt tg iter : Expr} {ifs : List Expr} {scope : Scope} {own : List (Str × Nat)} {pos : Pos} {wi : TI} {g : TG} {tt : TT} {te : TE} (hc : L2H.HotC X) (hN : X.N.Nodup) (hi : L2H.PIH X tg iter wi) (ok : BlkOk X.N X.env.scope scope own)
    (hg : ∀ (s : Shared) (H : Hp) (C : Addr) (cl : List (Str × Addr)) (fp : List Addr), PG (X.blkH s H scope (compEnvC scope cl C X.env) fp) tg g) (ht : ∀ (s : Shared) (H : Hp) (C : Addr) (cl : List (Str × Addr)) (fp : List Addr), PTs (X.blkH s H scope (compEnvC scope cl C X.env) fp) ifs tt)
    (he : ∀ (s : Shared) (H : Hp) (C : Addr) (cl : List (Str × Addr)) (fp : List Addr), PE (X.blkH s H scope (compEnvC scope cl C X.env) fp) elt te) (hs : ∀ x, foldedSetIterable iter X.env x = pure x := by intro _; rfl) :
    PE X (.ListComp elt [⟨tg, iter, ifs, 0⟩] scope pos) (tLc wi g tt te (own.map (·.2))) := by
  refine ⟨fun pins s σ H Q I h => ?_⟩
  rw [eval_ListComp]
  refine lc_coreH hc hN I hi ok hg ht he hs h fun D C s' m H' I' q hn f => ⟨m, hn, fun h'' sb => ?_⟩
  obtain ⟨f0, f1, f2, f3, f4, f5⟩ := f
  exact ⟨.ref D, H', I'.turned (t' := s'.toks) (fun b o hb e => (sb.2 b hb).trans e) f0 f1 f3 f4 f5, rfl, q⟩
end
end L2
/-! WH9: comprehension over data, hot (printed from TwE by replacing). -/
namespace TW
open PySem PySem.Spec PyProof.Rows L2
def BlkH (X : Cx) (scope : Scope) (XB : Cx) : Prop := ∃ (s : Shared) (H : Hp) (C : Addr) (cl : List (Str × Addr)) (fp : List Addr), XB = X.blkH s H scope (compEnvC scope cl C X.env) fp
section
variable {X : Cx} {tg iter elt c : Expr} {ifs : List Expr} {σ : L2.St} {B C H : Hp} {es ds : List PyData} {pos pos' spos : Pos} {scope : Scope} {own : List (Str × Nat)} {b : Bool}
/-- what each turn of a comprehension must show: g what is kept of an item -/
def LcTurnH {α β : Type} (X : Cx) (tg elt : Expr) (ifs : List Expr) (scope : Scope) (vs : List Nat) (σ : L2.St) (B : Hp) (l : List α) (enc : α → PyData) (g : α → Option β) (enc' : β → PyData) : Prop :=
  ∀ (i : Nat) (a : α) (v : V) (B' : Hp), l[i]? = some a → Same B B' → Dq X.K B' v (enc a) → ∃ σ2, wipe σ2 vs = wipe σ vs ∧ ∀ XB, BlkH X scope XB → XG XB tg v (wipe σ vs) B' σ2 ∧ XTs XB ifs σ2 B' (g a).isSome ∧ ∀ r, g a = some r → XE XB elt σ2 B' (DD X.K (enc' r))
variable {α β : Type} {l : List α} {enc : α → PyData} {g : α → Option β} {enc' : β → PyData}
theorem lc_turnH {α β : Type} {X : Cx} {tg elt : Expr} {ifs : List Expr} {scope : Scope} {ws : List Nat} {σ σ2 : L2.St} {v : V} {B' : Hp} {a : α} {g : α → Option β} {enc' : β → PyData}
    (hx : ∀ XB, BlkH X scope XB → XG XB tg v (wipe σ ws) B' σ2 ∧ XTs XB ifs σ2 B' (g a).isSome ∧ ∀ r, g a = some r → XE XB elt σ2 B' (DD X.K (enc' r))) (hw : wipe σ2 ws = wipe σ ws) :
    ∃ σ2, wipe σ2 ws = wipe σ ws ∧ ∀ XB, BlkH X scope XB → XG XB tg v (wipe σ ws) B' σ2 ∧ XTs XB ifs σ2 B' (g a).isSome ∧ ∀ r, g a = some r → XE XB elt σ2 B' (DD X.K (enc' r)) := ⟨σ2, hw, hx⟩
theorem lc_readH (h : XIH_ X tg iter σ B (l.map enc)) (g : α → Option β) (hz : l.length < sizeLine) (turn : LcTurnH X tg elt ifs scope (own.map (·.2)) σ B l enc g enc') {H : Hp} (s : Same B H) {Q : VK}
    (k : ∀ v B' H', Gr B H B' H' → DD X.K (.list ((l.filterMap g).map enc')) B' v → Q v H') :
    tLc (WIH X tg iter) (fun v σ' H' Q' => ∀ XB, BlkH X scope XB → WG XB tg v σ' H' Q')
      (fun σ' H' Q' => ∀ XB, BlkH X scope XB → ∀ (pins : List (Addr × Obj)) (s : Shared), Inv XB pins σ' H' s → wpAny (model XB.prog XB.w) XB.A (forIn ifs true fun c r => if r = true then do let ok ← isTrue c XB.env (eval c XB.env); pure (ForInStep.yield ok) else pure (ForInStep.yield r)) (TP XB pins σ' Q') XB.xe s)
      (fun σ' H' Q' => ∀ XB, BlkH X scope XB → WE XB elt σ' H' Q') (own.map (·.2)) σ H Q := by
  refine h H s _ fun J B1 H1 g1 w D hD => ?_
  have hB1 : B1 D = none := g1.bh.free hD
  have el : (l.map enc).length = l.length := List.length_map ..
  refine ⟨fun i m H' => m = l.length - i ∧ i ≤ l.length ∧ ∃ B' acc, Gr B1 H1 B' H' ∧ B' D = none ∧ H' D = some (.lst acc) ∧ DqAll X.K B' acc (((l.take i).filterMap g).map enc'),
    ⟨l.length, by simp, Nat.zero_le _, B1, [], (Gr.rfl g1.bh).mut hD hB1, hB1, upd_same, .nil⟩, ?_⟩
  rintro i m H' ⟨rfl, hi, B', acc, gr, bD, hacc, rel⟩
  by_cases hlt : i < l.length
  · refine .inr ⟨w.go i H' (gr.bb.trans gr.bh) (by rw [el]; exact hlt), fun H2 => i + 1 ≤ l.length ∧ ∃ B' acc, Gr B1 H1 B' H2 ∧ B' D = none ∧ H2 D = some (.lst acc) ∧ DqAll X.K B' acc (((l.take (i + 1)).filterMap g).map enc'), fun H2 hn => ⟨l.length - (i + 1), by omega, rfl, hn⟩, fun x H2 y => ?_⟩
    obtain ⟨d, Bx, e1, gx, px⟩ := w.yld i H' x H2 (gr.bb.trans gr.bh) (by rw [el]; exact hlt) y
    obtain ⟨a, ea, rfl⟩ : ∃ a, l[i]? = some a ∧ d = enc a := by
      rw [List.getElem?_map] at e1
      cases q : l[i]? with
      | none => rw [q] at e1; cases e1
      | some a =>
        rw [q] at e1
        exact ⟨a, rfl, (Option.some.inj e1).symm⟩
    have gu := gx.wide gr.bb gr.bh
    have g2 := gr.trans gu
    have uD : uni Bx B' D = none := gu.low bD (by rw [hacc]; intro z; cases z)
    have hacc2 : H2 D = some (.lst acc) := gx.hh _ _ hacc
    obtain ⟨σ2, ew, q⟩ := turn i a x (uni Bx B') ea ((g1.bb.trans gr.bb).trans gu.bb) (Dq.up uni_l _ _ px)
    have etk : ((l.take (i + 1)).filterMap g).map enc' = ((l.take i).filterMap g).map enc' ++ (match g a with | some r => [enc' r] | none => []) := by
      rw [List.take_add_one, ea, List.filterMap_append, List.map_append]
      cases hf : g a <;> simp [hf]
    refine fun XB hb => (q XB hb).1 H2 gu.bh _ ⟨ew, fun XB2 hb2 => ?_⟩
    refine (q XB2 hb2).2.1 H2 gu.bh _ fun B3 H3 g3 => ?_
    have g4 := g2.trans g3
    have b3 : B3 D = none := g3.low uD (by rw [hacc2]; intro z; cases z)
    have hacc3 : H3 D = some (.lst acc) := g3.hh _ _ hacc2
    have rel3 := DqAll.up (gu.bb.trans g3.bb) _ _ rel
    cases hf : g a with
    | none =>
      refine iteF ⟨hlt, B3, acc, g4, b3, hacc3, ?_⟩
      rw [etk, hf, List.append_nil]
      exact rel3
    | some r =>
      refine iteT fun XB3 hb3 => ?_
      have qe : XE XB3 elt σ2 B3 (DD X.K (enc' r)) := ((q XB3 hb3).2.2 r hf).up g3.bb
      refine qe H3 g3.bh _ fun v B4 H4 g5 p5 => ?_
      have b4 : B4 D = none := g5.low b3 (by rw [hacc3]; intro z; cases z)
      have hacc4 : H4 D = some (.lst acc) := g5.hh _ _ hacc3
      refine ⟨acc, hacc4, ?_, hlt, B4, acc ++ [v], (g4.trans g5).mut hD b4, b4, upd_same, ?_⟩
      · rw [rel3.length, List.length_map]
        have l1 : ((l.take i).filterMap g).length ≤ (l.take i).length := List.length_filterMap_le ..
        rw [List.length_take] at l1
        omega
      · rw [etk, hf]
        exact (DqAll.up g5.bb _ _ rel3).app (.one p5)
  · have e : i = l.length := by omega
    subst e
    refine .inl ⟨by have z := w.stop H' (gr.bb.trans gr.bh); rw [el] at z; exact z, ?_⟩
    have g6 := g1.trans (gr.freeze hD hacc)
    rw [List.take_of_length_le (Nat.le_refl _)] at rel
    have nD : Same B' (upd B' D (.lst acc)) := same_new bD
    exact k _ _ _ g6 (.lst upd_same (DqAll.up nD _ _ rel))
theorem blk_gH {t : Cx → TG} (h : ∀ XB, BlkH X scope XB → PG XB tg (t XB)) : ∀ (s : Shared) (H : Hp) (C : Addr) (cl : List (Str × Addr)) (fp : List Addr), PG (X.blkH s H scope (compEnvC scope cl C X.env) fp) tg (fun v σ' H' Q' => ∀ XB, BlkH X scope XB → t XB v σ' H' Q') := fun s H C cl fp =>
  ⟨fun pins st σ H' v u Q I r q => (h _ ⟨s, H, C, cl, fp, rfl⟩).run pins st σ H' v u Q I r (q _ ⟨s, H, C, cl, fp, rfl⟩)⟩
theorem x_lcH (h : XIH_ X tg iter σ B (l.map enc)) (g : α → Option β) (turn : LcTurnH X tg elt ifs scope (own.map (·.2)) σ B l enc g enc') (hz : l.length < sizeLine) (hc : L2H.HotC X) (hN : X.N.Nodup) (ok : BlkOk X.N X.env.scope scope own)
    (hs : ∀ x, foldedSetIterable iter X.env x = pure x := by intro _; rfl) : XE X (.ListComp elt [⟨tg, iter, ifs, 0⟩] scope pos) σ B (DD X.K (.list ((l.filterMap g).map enc'))) := fun H s Q k => by
  refine we_of (pe_lcH hc hN piHW ok (fun s H C cl fp => ⟨fun pins st σ H' v u Q I r q => q _ ⟨s, H, C, cl, fp, rfl⟩ pins st u I r⟩) (fun s H C cl fp => ⟨fun pins st σ H' Q I q => q _ ⟨s, H, C, cl, fp, rfl⟩ pins st I⟩)
    (fun s H C cl fp => ⟨fun pins st σ H' Q I q => q _ ⟨s, H, C, cl, fp, rfl⟩ pins st I⟩) hs) (lc_readH h g hz turn s k)
/-- no test: all are kept -/
theorem lc_mapH {α β : Type} {X : Cx} {tg elt : Expr} {scope : Scope} {ws : List Nat} {σ σ2 : L2.St} {v : V} {B' : Hp} {a : α} {f : α → β} {enc' : β → PyData}
    (hx : ∀ XB, BlkH X scope XB → XG XB tg v (wipe σ ws) B' σ2 ∧ XE XB elt σ2 B' (DD X.K (enc' (f a)))) (hw : wipe σ2 ws = wipe σ ws) :
    ∃ σ2, wipe σ2 ws = wipe σ ws ∧ ∀ XB, BlkH X scope XB → XG XB tg v (wipe σ ws) B' σ2 ∧ XTs XB [] σ2 B' ((fun a => some (f a)) a).isSome ∧ ∀ r, (fun a => some (f a)) a = some r → XE XB elt σ2 B' (DD X.K (enc' r)) :=
  ⟨σ2, hw, fun XB h => ⟨(hx XB h).1, xts_nil, fun r hr => by
    cases hr
    exact (hx XB h).2⟩⟩
theorem fm_mapH {α β : Type} (f : α → β) (l : List α) : l.filterMap (fun a => some (f a)) = l.map f := by
  rw [show (fun a => some (f a)) = some ∘ f from rfl, List.filterMap_eq_map]
theorem x_lcMH {α β : Type} {l : List α} {enc : α → PyData} {enc' : β → PyData} (f : α → β) (h : XIH_ X tg iter σ B (l.map enc)) (turn : LcTurnH X tg elt [] scope (own.map (·.2)) σ B l enc (fun a => some (f a)) enc') (hz : l.length < sizeLine) (hc : L2H.HotC X) (hN : X.N.Nodup) (ok : BlkOk X.N X.env.scope scope own)
    (hs : ∀ x, foldedSetIterable iter X.env x = pure x := by intro _; rfl) : XE X (.ListComp elt [⟨tg, iter, [], 0⟩] scope pos) σ B (DD X.K (.list ((l.map f).map enc'))) := by
  have z := x_lcH (pos := pos) h (fun a => some (f a)) turn hz hc hN ok hs
  rw [fm_mapH] at z
  exact z
end
end TW
/-! WH10: comprehension, calm or hot. -/
namespace TW
open PySem PySem.Spec PyProof.Rows L2
def BlkC (X : Cx) (scope : Scope) (XB : Cx) : Prop := Blk X scope XB ∨ BlkH X scope XB
def LcTurnC {α β : Type} (X : Cx) (tg elt : Expr) (ifs : List Expr) (scope : Scope) (vs : List Nat) (σ : L2.St) (B : Hp) (l : List α) (enc : α → PyData) (g : α → Option β) (enc' : β → PyData) : Prop :=
  ∀ (i : Nat) (a : α) (v : V) (B' : Hp), l[i]? = some a → Same B B' → Dq X.K B' v (enc a) → ∃ σ2, wipe σ2 vs = wipe σ vs ∧ ∀ XB, (X.calm = true ∧ Blk X scope XB) ∨ (L2H.HotC X ∧ BlkH X scope XB) → XG XB tg v (wipe σ vs) B' σ2 ∧ XTs XB ifs σ2 B' (g a).isSome ∧ ∀ r, g a = some r → XE XB elt σ2 B' (DD X.K (enc' r))
section
variable {X : Cx} {tg iter elt c : Expr} {ifs : List Expr} {σ : L2.St} {B C H : Hp} {pos : Pos} {scope : Scope} {own : List (Str × Nat)} {α β : Type} {l : List α} {enc : α → PyData} {enc' : β → PyData}
theorem x_lcC (hc : CH X) (h : XIB X tg iter σ B (l.map enc)) (g : α → Option β) (turn : LcTurnC X tg elt ifs scope (own.map (·.2)) σ B l enc g enc') (hz : l.length < sizeLine) (hN : X.N.Nodup) (ok : BlkOk X.N X.env.scope scope own)
    (hs : ∀ x, foldedSetIterable iter X.env x = pure x := by intro _; rfl) : XE X (.ListComp elt [⟨tg, iter, ifs, 0⟩] scope pos) σ B (DD X.K (.list ((l.filterMap g).map enc'))) := by
  rcases hc with hc | hc
  · refine x_lc h.1 g (fun i a v B' ea sb hd => ?_) hz hc hN ok hs
    obtain ⟨σ2, e, q⟩ := turn i a v B' ea sb hd
    exact ⟨σ2, e, fun XB hb => q XB (.inl ⟨hc, hb⟩)⟩
  · refine x_lcH h.2 g (fun i a v B' ea sb hd => ?_) hz hc hN ok hs
    obtain ⟨σ2, e, q⟩ := turn i a v B' ea sb hd
    exact ⟨σ2, e, fun XB hb => q XB (.inr ⟨hc, hb⟩)⟩
/-- in the block it is calm or hot as around it -/
theorem CH.calm {XB : Cx} (hc : X.calm = true) (hb : Blk X scope XB) : CH XB := by
  obtain ⟨_, _, _, _, _, rfl⟩ := hb
  exact .inl hc
theorem CH.hot {XB : Cx} (hc : L2H.HotC X) (hb : BlkH X scope XB) : CH XB := by
  obtain ⟨_, _, _, _, _, rfl⟩ := hb
  exact .inr hc
end
end TW
/-! WH11: defs called calm or hot. -/
namespace TW
open PySem PySem.Spec PyProof.Rows L2
def CHR (k : Nat) (X : Cx) : Prop := (X.calm = true ∧ Room k X.A) ∨ (L2H.HotC X ∧ L2H.RoomH k X.A)
theorem CHR.ch {k : Nat} {X : Cx} (h : CHR k X) : CH X := h.elim (fun a => .inl a.1) fun a => .inr a.1
structure DnC (P : Program) (w : World) (K : PySem.W.Frag) (mg : Str → Option Value) (base : Heap) (k : Nat) (x : Str) (ps : List Str) (sp : Sp) : Prop where
  ex : ∃ f fd, FnOk P w K mg base CX0 k f fd ps sp ∧ L2H.FnH P w K mg base CX0 k f fd ps sp ∧ mg x = some (.ref f) ∧ PySem.W.keepIn K (.ref f) = true ∧ Binds K fd ps []
section
variable {P : Program} {w : World} {K : PySem.W.Frag} {mg : Str → Option Value} {base : Heap}
abbrev cxC (P : Program) (w : World) (K : PySem.W.Frag) (mg : Str → Option Value) (base : Heap) (N : List Str) (qual : Str) (scope : Scope) (f : Addr) (cd : Value) (A : Around) (outer : List Env) (s : Shared) (H : Hp) (E : XK) (b : Bool) (pn : List (Addr × Obj)) : Cx :=
  { (cxOf CX0 P w K mg base N qual scope f cd A outer s H E).nox with calm := b, pn := pn }
theorem dn_ofC {x qual : Str} {st : Stmt} {N ps : List Str} {k : Nat} {α : Type} {A : α → Hp → List V → Prop} {R : α → Hp → V → Prop} (D : FunX K mg x qual st) (S : FnScope N ps (defScope st))
    (hb : ∀ (kV doc pm : Value) (an : Option Addr) (cdv ct : Value) (us : List Value), us.length = ps.length → bindArgs (PySem.W.fnOf qual qual (defArgs st) (defBody st) (defScope st) .none kV doc pm an cdv ct) ⟨us, []⟩ = pure (ps.zip us))
    (len : ∀ y B vs, A y B vs → vs.length = ps.length)
    (body : ∀ (f : Addr) (cdv : Value) (A0 : Around) (outer : List Env) (s : Shared) (H : Hp) (vs : List V) (E : XK) (b : Bool) (pn : List (Addr × Obj)) (y : α) (B : Hp) (Q : VK), CHR k (cxC P w K mg base N qual (defScope st) f cdv A0 outer s H E b pn) → Same B H → A y B vs → (∀ v B' H', Gr B H B' H' → R y B' v → Q v H') →
      WSs (cxC P w K mg base N qual (defScope st) f cdv A0 outer s H E b pn) (defBody st) { nx := fun _ H' => Q .non H', rt := Q } (start N vs) H) : DnC P w K mg base (k + 1) x ps (SpP A R) := by
  obtain ⟨f, fd, F, hm⟩ := D.ex
  have hlen : ∀ vs H Q E, SpP A R vs H Q E → vs.length = ps.length := fun vs H Q E h => by
    obtain ⟨y, B, _, ha, _⟩ := h
    exact len y B vs ha
  refine ⟨f, fd, F.ok S hlen (fun cdv A0 outer s H vs Q E hr h => ?_), ?_, hm, F.kp, F.binds hb⟩
  · obtain ⟨y, B, sb, ha, q⟩ := h
    exact ⟨_, pssW, body f cdv A0 outer s H vs E true [] y B Q (.inl ⟨rfl, hr⟩) sb ha q⟩
  · obtain ⟨oc, od, kV, doc, pm, an, cdv, ct, osl, rfl, lk, hcd⟩ := F.ex
    refine L2H.fn_ofH lk hcd S hlen fun A0 outer s H vs Q E p hot hr h => ?_
    obtain ⟨y, B, sb, ha, q⟩ := h
    exact ⟨_, (pssW (X := (L2H.cxH CX0 P w K mg base N qual (defScope st) f cdv A0 outer s H E p).nox)).nox, body f cdv A0 outer s H vs E false [p] y B Q (.inr ⟨⟨p, hot, List.mem_singleton.mpr rfl⟩, hr⟩) sb ha q⟩
end
end TW
/-! WH12: calls, calm or hot. -/
namespace TW
open PySem PySem.Spec PyProof.Rows L2
theorem CHR.mono {j k : Nat} {X : Cx} (h : CHR k X) (e : j ≤ k) : CHR j X := h.elim (fun a => .inl ⟨a.1, a.2.mono e⟩) fun a => .inr ⟨a.1, a.2.mono e⟩
theorem CHR.un64 {k : Nat} {X : Cx} (h : CHR k X) : X.A.units + 64 < cLine := by
  rcases h with h | h
  · have := h.2.un; omega
  · have := h.2.un; omega
section
variable {X : Cx} {e : Expr} {es : List Expr} {σ : L2.St} {B H : Hp} {pp pos : Pos}
theorem passAt0 {E : XK} (hE : ∀ a b c, ¬ E a b c) (σ : L2.St) : PassesAt CX0 X σ E := fun _ _ _ _ _ _ h => (show False from h).elim
theorem x_callC {α : Type} {k : Nat} {x : Str} {ps : List Str} {A : α → Hp → List V → Prop} {R : α → Hp → V → Prop} (y : α) (G : DnC X.prog X.w X.K X.mg X.base k x ps (SpP A R)) (hr : CHR k X) (hg : Gl X x) (ha : XA X (e :: es) σ B (A y))
    (hdb : (x == ("__debug__" : Str)) = false := by decide) (he : starEach (e :: es) X.env = (false, eval e X.env) :: starEach es X.env := by rfl) (hpl : (backTo pos (starEach es X.env)).any (·.1) = false := by rfl) : XE X (.Call (.Name x pp) (e :: es) [] pos) σ B (R y) := fun H s Q q => by
  obtain ⟨f, fd, F, FH, hm, hk, hb⟩ := G.ex
  rcases hr with ⟨hc, hr⟩ | ⟨hc, hr⟩
  · refine we_of (pe_call (E := E0) F hr hg hm hk hb .nil pass0 paW hdb he hpl) ?_
    refine ha H s _ fun vs B1 H1 g1 p1 => ⟨y, B1, g1.bh, by rw [List.append_nil]; exact p1, fun v B2 H2 g2 p2 => q v B2 H2 (g1.trans g2) p2⟩
  · refine we_of (L2H.pe_callH (E := fun _ => E0) FH hr hc hg hm hk hb (fun σ => passAt0 (fun _ _ _ z => z) σ) paW hdb he hpl) ?_
    exact ha H s _ fun vs B1 H1 g1 p1 => ⟨y, B1, g1.bh, p1, fun v B2 H2 g2 p2 => q v B2 H2 (g1.trans g2) p2⟩
end
end TW
/-! WL4: _law_beside. -/
namespace TW
open PySem PySem.Spec PyProof.Rows L2
def besideB (h : Harb) (ships : List Ship) (a b : Trip) : Bool :=
  if (decide (a.2.1 = b.2.1) && (decide (b.1 ≤ a.2.2) && decide (a.1 ≤ b.2.2))) = true then false
  else if (!decide (a.1 ∈ [b.1, b.2.2]) && !decide (a.2.2 ∈ [b.1, b.2.2])) = true then true
  else decide (1 < h.pilots) && decide ((ships.getD 0 default).tugs + (ships.getD 1 default).tugs ≤ h.tugs)
section
variable {P : Program} {w : World} {K : PySem.W.Frag} {mg : Str → Option Value} {base : Heap}
def A60 (K : PySem.W.Frag) (y : Harb × List Ship × Trip × Trip) (B : Hp) (vs : List V) : Prop := (y.2.1.length = 2) ∧ DqAll K B vs [eHarb y.1, eShips y.2.1, eTrip y.2.2.1, eTrip y.2.2.2]
theorem dn60 (T : Txt K mg) : DnC P w K mg base 1 "_law_beside" ["_law_harbour", "_law_ships", "_law_one", "_law_other"] (SpP (A60 K) fun y => DD K (.bool (besideB y.1 y.2.1 y.2.2.1 y.2.2.2))) :=
  dn_ofC T.f60 sc60 (fun _ _ _ _ _ _ us hl => match us, hl with | [_, _, _, _], _ => rfl) (fun y B vs h => h.2.length) fun f cdv A0 outer s H vs E b pn y B Q hr sb ha q => by
    obtain ⟨hd, ships, a, o⟩ := y
    obtain ⟨hn, hv⟩ := ha
    change ships.length = 2 at hn
    obtain ⟨v1, v2, v3, v4, rfl, r1, r2, r3, r4⟩ := inv4 hv
    have hu := hr.un64
    refine ws_cons (ws_if (t := decide (a.2.1 = o.2.1) && (decide (o.1 ≤ a.2.2) && decide (a.1 ≤ o.2.2))) (xt_w (xw_and (xt_cmp (c_eqI hu) (x_ixT (x_var 2 rfl r3) x_int rfl) (x_ixT (x_var 3 rfl r4) x_int rfl)) fun _ => xw_and (xt_cmp c_ge (x_ixT (x_var 2 rfl r3) x_int rfl) (x_ixT (x_var 3 rfl r4) x_int rfl)) fun _ => xw_and1 (xt_cmp c_ge (x_ixT (x_var 3 rfl r4) x_int rfl) (x_ixT (x_var 2 rfl r3) x_int rfl)))) sb (fun hc B1 H1 g1 => ?_) fun hc B1 H1 g1 => ?_)
    · refine ws_one (ws_ret (P := DD K (.bool false)) x_bl g1.bh fun v B2 H2 g2 p2 => q v B2 H2 (g1.trans g2) ?_)
      unfold besideB
      rw [if_pos hc]
      exact p2
    · have r31 := Dq.up g1.bb _ _ r3
      have r41 := Dq.up g1.bb _ _ r4
      have hl : (show List PyData from [.int o.1, .int o.2.2]) = [o.1, o.2.2].map PyData.int := rfl
      refine ws_nil (ws_cons (ws_if (t := !decide (a.1 ∈ [o.1, o.2.2]) && !decide (a.2.2 ∈ [o.1, o.2.2])) (xt_w (xw_and (xt_cmp (c_nin (ns := [o.1, o.2.2])) (x_ixT (x_var 2 rfl r31) x_int rfl) (x_lst (xd_cons (x_ixT (x_var 3 rfl r41) x_int rfl) (xd_cons (x_ixT (x_var 3 rfl r41) x_int rfl) xd_nil)) (show 2 ≤ sizeLine by decide))) fun _ => xw_and1 (xt_cmp (c_nin (ns := [o.1, o.2.2])) (x_ixT (x_var 2 rfl r31) x_int rfl) (x_lst (xd_cons (x_ixT (x_var 3 rfl r41) x_int rfl) (xd_cons (x_ixT (x_var 3 rfl r41) x_int rfl) xd_nil)) (show 2 ≤ sizeLine by decide))))) g1.bh (fun hc2 B2 H2 g2 => ?_) fun hc2 B2 H2 g2 => ?_))
      · refine ws_one (ws_ret (P := DD K (.bool true)) x_bl g2.bh fun v B3 H3 g3 p3 => q v B3 H3 ((g1.trans g2).trans g3) ?_)
        unfold besideB
        rw [if_neg (by rw [hc]; simp), if_pos hc2]
        exact p3
      · have s2 := g1.bb.trans g2.bb
        refine ws_nil (ws_one (ws_ret (P := DD K (.bool (decide (1 < hd.pilots) && decide ((ships.getD 0 default).tugs + (ships.getD 1 default).tugs ≤ hd.tugs)))) ?_ g2.bh fun v B3 H3 g3 p3 => q v B3 H3 ((g1.trans g2).trans g3) ?_))
        · exact x_and (x_cmp c_gt (x_ixT (x_var 0 rfl (Dq.up s2 _ _ r1)) x_int rfl) x_int) fun _ => x_and1 (x_cmp c_le (x_add (x_ixT (x_ixL (x_var 1 rfl (Dq.up s2 _ _ r2)) x_int (atI_nat (f := eShip) (l := ships) (n := 0) (d := default) (by omega))) x_int rfl) (x_ixT (x_ixL (x_var 1 rfl (Dq.up s2 _ _ r2)) x_int (atI_nat (f := eShip) (l := ships) (n := 1) (d := default) (by omega))) x_int rfl)) (x_ixT (x_var 0 rfl (Dq.up s2 _ _ r1)) x_int rfl))
        · unfold besideB
          rw [if_neg (by rw [hc]; simp), if_neg (by rw [hc2]; simp)]
          exact p3
end
end TW
/-! WM0: the order of rows of three numbers. -/
namespace TW
open PySem PySem.Spec PyProof.Rows L2
theorem leT_eq (p q : Trip) : PySem.W.dataLe false eTrip p q = !decide ([q.1, q.2.1, q.2.2] < [p.1, p.2.1, p.2.2]) := by
  show (!PySem.W.dataLt (.tuple ([q.1, q.2.1, q.2.2].map .int)) (.tuple ([p.1, p.2.1, p.2.2].map .int))) = _
  rw [PySem.W.dataLt_tuple]
  exact congrArg (!·) (PySem.W.dataLt_ints _ _)
end TW
/-! WM1: the moves of one hour, in plain Lean. -/
namespace TW
/-- what moves of an hour are: ascending names, each of its row, let together -/
structure MI (h : Harb) (ships : List Ship) (l : List (List Int)) (i : Nat) (m : Mv) : Prop where
  asc : m.Pairwise fun a b => a.1 < b.1
  row : ∀ p ∈ m, ∃ n : Nat, n < i ∧ p.1 = (n : Int) ∧ p.2 ∈ l.getD n []
  ok : m = [] ∨ isLet h ships m = true
theorem mi_at {h : Harb} {ships : List Ship} {l : List (List Int)} : ∀ i, i ≤ l.length → ∀ m ∈ (l.zipIdx.take i).foldl (fun f p => moreOf h ships p.2 p.1 f) [[]], MI h ships l i m
  | 0, _, m, hm => by
    rw [List.take_zero, List.foldl_nil, List.mem_singleton] at hm
    subst hm
    exact ⟨.nil, fun p hp => (nomatch hp), .inl rfl⟩
  | i + 1, hi, m, hm => by
    have hlt : i < l.length := hi
    have e : l.zipIdx[i]? = some (l[i], i) := by
      rw [List.getElem?_zipIdx]
      simp [hlt]
    rw [take_foldl e] at hm
    have ih := mi_at (h := h) (ships := ships) i (Nat.le_of_lt hlt)
    unfold moreOf at hm
    rcases List.mem_append.mp hm with hm | hm
    · have z := ih m hm
      exact ⟨z.asc, fun p hp => (by obtain ⟨n, h1, h2⟩ := z.row p hp; exact ⟨n, by omega, h2⟩), z.ok⟩
    · obtain ⟨h1, h2⟩ := List.mem_filter.mp hm
      obtain ⟨m', hm', h3⟩ := List.mem_flatMap.mp h1
      obtain ⟨b, hb, rfl⟩ := List.mem_map.mp h3
      have z := ih m' hm'
      refine ⟨?_, fun p hp => ?_, .inr h2⟩
      · rw [List.pairwise_append]
        refine ⟨z.asc, List.pairwise_singleton _ _, fun p hp q hq => ?_⟩
        obtain ⟨n, h1, h2, _⟩ := z.row p hp
        rw [List.mem_singleton.mp hq, h2]
        show (n : Int) < (i : Int)
        omega
      · rcases List.mem_append.mp hp with hp | hp
        · obtain ⟨n, h1, h2⟩ := z.row p hp
          exact ⟨n, by omega, h2⟩
        · rw [List.mem_singleton.mp hp]
          refine ⟨i, Nat.lt_succ_self _, rfl, ?_⟩
          rw [List.getD_eq_getElem?_getD, List.getElem?_eq_getElem hlt]
          exact hb
theorem choices_get {h : Harb} {ships : List Ship} {st : Sta} {lat : Lat} {n : Nat} (hn : n < ships.length) : (choicesOf h ships st lat).getD n [] = rowOf h st lat n (ships.getD n default) := by
  unfold choicesOf
  simp [hn]
/-- the moves of an hour -/
structure Mo (h : Harb) (ships : List Ship) (s : Sta) (lat : Lat) (m : Mv) : Prop where
  la : s.1 ≤ h.last
  en : isEnd s.2 = false
  asc : m.Pairwise fun a b => a.1 < b.1
  row : ∀ p ∈ m, ∃ n : Nat, n < ships.length ∧ p.1 = (n : Int) ∧ p.2 ∈ rowOf h s lat n (ships.getD n default)
  ok : m = [] ∨ isLet h ships m = true
theorem mo_of {h : Harb} {ships : List Ship} {s : Sta} {lat : Lat} {m : Mv} (hm : m ∈ movesIn h ships s lat) : Mo h ships s lat m := by
  unfold movesIn at hm
  split at hm
  · cases hm
  · rename_i hc
    have hm := List.mem_mergeSort.mp hm
    have z := mi_at (h := h) (ships := ships) (l := choicesOf h ships s lat) _ (Nat.le_refl _) m (by
      rw [List.take_of_length_le (by rw [List.length_zipIdx]; exact Nat.le_refl _)]
      exact hm)
    refine ⟨by omega, ?_, z.asc, fun p hp => ?_, z.ok⟩
    · cases e : isEnd s.2 with
      | false => rfl
      | true => exact absurd (.inr e) hc
    · obtain ⟨n, h1, h2, h3⟩ := z.row p hp
      rw [choices_len] at h1
      rw [choices_get h1] at h3
      exact ⟨n, h1, h2, h3⟩
/-- what ship n does in these moves -/
def act (m : Mv) (n : Nat) : Option Int := m.lookup (n : Int)
theorem act_mem {m : Mv} {n : Nat} {b : Int} (h : act m n = some b) : ((n : Int), b) ∈ m := by
  unfold act at h
  induction m with
  | nil => cases h
  | cons p m ih =>
    obtain ⟨x, y⟩ := p
    rw [List.lookup_cons] at h
    split at h
    · rename_i e
      have e' := eq_of_beq e
      cases h
      rw [e']
      exact .head _
    · exact .tail _ (ih h)
theorem act_none {m : Mv} {n : Nat} (h : act m n = none) : ∀ p ∈ m, p.1 ≠ (n : Int) := by
  unfold act at h
  induction m with
  | nil => exact fun p hp => (nomatch hp)
  | cons p m ih =>
    obtain ⟨x, y⟩ := p
    rw [List.lookup_cons] at h
    split at h
    · cases h
    · rename_i e
      intro q hq
      rcases List.mem_cons.mp hq with rfl | hq
      · intro z
        change x = (n : Int) at z
        rw [z] at e
        simp at e
      · exact ih h q hq
theorem act_of {m : Mv} {n : Nat} {b : Int} (ha : m.Pairwise fun a b => a.1 < b.1) (h : ((n : Int), b) ∈ m) : act m n = some b := by
  induction m with
  | nil => cases h
  | cons p m ih =>
    obtain ⟨x, y⟩ := p
    rw [List.pairwise_cons] at ha
    unfold act
    rw [List.lookup_cons]
    rcases List.mem_cons.mp h with z | h
    · cases z
      simp
    · have := ha.1 _ h
      have ne : ((n : Int) == x) = false := by
        simp only [beq_eq_false_iff_ne, ne_eq]
        change x < (n : Int) at this
        omega
      rw [ne]
      exact ih ha.2 h
theorem Mo.act {h : Harb} {ships : List Ship} {s : Sta} {lat : Lat} {m : Mv} (z : Mo h ships s lat m) {n : Nat} {b : Int} (e : act m n = some b) : n < ships.length ∧ b ∈ rowOf h s lat n (ships.getD n default) := by
  obtain ⟨n', h1, h2, h3⟩ := z.row _ (act_mem e)
  have : n' = n := by
    change (n : Int) = (n' : Int) at h2
    omega
  subst this
  exact ⟨h1, h3⟩
theorem getD_set {l : List (Int × Int)} {i n : Nat} {x d : Int × Int} (h : n < l.length) : (l.set i x).getD n d = if i = n then x else l.getD n d := by
  rw [List.getD_eq_getElem?_getD, List.getElem?_set]
  split
  · rename_i e
    subst e
    rw [if_pos h]
    rfl
  · rw [List.getD_eq_getElem?_getD]
theorem fold_at {ships : List Ship} {n : Nat} : ∀ (m : Mv) (ps : List (Int × Int)), (m.Pairwise fun a b => a.1 < b.1) → (∀ p ∈ m, 0 ≤ p.1) → n < ps.length →
    (m.foldl (putMv ships) ps).getD n (0, 0) = match act m n with | some b => landed ships ((n : Int), b) | none => ps.getD n (0, 0)
  | [], _, _, _, _ => rfl
  | (x, y) :: m, ps, ha, h0, hn => by
    rw [List.pairwise_cons] at ha
    have hx := h0 _ (.head _)
    change 0 ≤ x at hx
    rw [List.foldl_cons, fold_at m _ ha.2 (fun p hp => h0 p (.tail _ hp)) (by unfold putMv; rw [List.length_set]; exact hn)]
    unfold act
    rw [List.lookup_cons]
    by_cases e : (n : Int) = x
    · subst e
      have hn2 : act m n = none := by
        cases q : act m n with
        | none => rfl
        | some b =>
          have := ha.1 _ (act_mem q)
          change (n : Int) < (n : Int) at this
          omega
      unfold act at hn2
      rw [hn2]
      simp only [beq_self_eq_true]
      unfold putMv
      rw [getD_set hn]
      simp
    · have e' : ((n : Int) == x) = false := by simpa using e
      rw [e']
      simp only
      split
      · rfl
      · unfold putMv
        rw [getD_set hn, if_neg (by intro z; apply e; change x.toNat = n at z; omega)]
theorem after_at {h : Harb} {ships : List Ship} {s : Sta} {lat : Lat} {m : Mv} (z : Mo h ships s lat m) {n : Nat} (hn : n < s.2.length) :
    plAt (afterMoves ships s m) n = match act m n with | some b => landed ships ((n : Int), b) | none => tick (plAt s n) := by
  show (m.foldl (putMv ships) (s.2.map tick)).getD n (0, 0) = _
  rw [fold_at m _ z.asc (fun p hp => by obtain ⟨k, _, h2, _⟩ := z.row p hp; rw [h2]; omega) (by rw [List.length_map]; exact hn)]
  split
  · rfl
  · unfold plAt
    simp [hn]
/-- the rows of an hour's moves, for ship n -/
theorem rows_hour {m : Mv} {n : Nat} {t : Int} (ha : m.Pairwise fun a b => a.1 < b.1) : rowsFor (m.map fun p => (t, p.1, p.2)) n = match act m n with | some b => [(t, b)] | none => [] := by
  induction m with
  | nil => rfl
  | cons p m ih =>
    obtain ⟨x, y⟩ := p
    rw [List.pairwise_cons] at ha
    have ih := ih ha.2
    unfold rowsFor at ih ⊢
    rw [List.map_cons, List.filterMap_cons]
    unfold act at ih ⊢
    rw [List.lookup_cons]
    by_cases e : x = (n : Int)
    · subst e
      have hn2 : act m n = none := by
        cases q : act m n with
        | none => rfl
        | some b =>
          have := ha.1 _ (act_mem q)
          change (n : Int) < (n : Int) at this
          omega
      unfold act at hn2
      rw [hn2] at ih
      simp only [beq_self_eq_true]
      rw [ih]
      simp
    · have e' : ((n : Int) == x) = false := by
        simp only [beq_eq_false_iff_ne, ne_eq]
        exact fun z => e z.symm
      rw [e']
      simp only [e, if_false]
      exact ih
theorem rows_app (a b : List Trip) (n : Nat) : rowsFor (a ++ b) n = rowsFor a n ++ rowsFor b n := by
  unfold rowsFor
  exact List.filterMap_append
end TW
/-! WM2: the way, hour by hour; what it tells of each ship. -/
namespace TW
structure Wx (h : Harb) (ships : List Ship) : Prop where
  wd : Wd h ships
  tg : ∀ s ∈ ships, 0 ≤ s.tugs
  ry : ∀ s ∈ ships, 0 ≤ s.ready
  pi : 1 ≤ h.pilots
theorem row_mem {h : Harb} {st : Sta} {lat : Lat} {n : Nat} {s : Ship} {b : Int} : b ∈ rowOf h st lat n s ↔ s.draught ≤ depthAt h st.1 ∧ ((plAt st n = SEA ∧ s.ready ≤ st.1 ∧ b ∈ berthsFor h s st.2) ∨ (0 ≤ (plAt st n).1 ∧ (plAt st n).2 = 0 ∧ isKept lat n st.1 = true ∧ b = -1)) := by
  unfold rowOf
  constructor
  · intro hb
    split at hb
    · rename_i hd
      refine ⟨hd, ?_⟩
      split at hb
      · rename_i hc
        exact .inl ⟨hc.1, hc.2, hb⟩
      · split at hb
        · rename_i hc
          exact .inr ⟨hc.1, hc.2.1, hc.2.2, List.mem_singleton.mp hb⟩
        · cases hb
    · cases hb
  · rintro ⟨hd, h1 | h1⟩
    · rw [if_pos hd, if_pos ⟨h1.1, h1.2.1⟩]
      exact h1.2.2
    · rw [if_pos hd, if_neg, if_pos ⟨h1.1, h1.2.1, h1.2.2.1⟩]
      · rw [h1.2.2.2]
        exact .head _
      · rintro ⟨e, _⟩
        rw [e] at h1
        exact absurd h1.1 (by decide)
theorem berths_mem {h : Harb} {s : Ship} {ps : List (Int × Int)} {b : Int} : b ∈ berthsFor h s ps ↔ (0 ≤ b ∧ b < h.berths.length) ∧ s.length ≤ h.berths.getD b.toNat 0 ∧ ¬ b ∈ ps.map (·.1) := by
  unfold berthsFor
  rw [List.mem_filterMap]
  constructor
  · rintro ⟨⟨l, n⟩, h1, h2⟩
    have h3 := List.mem_zipIdx h1
    split at h2
    · rename_i hc
      cases h2
      have hn : n < h.berths.length := by omega
      refine ⟨⟨by omega, by omega⟩, ?_, hc.2⟩
      have e : h.berths.getD n 0 = l := by
        rw [h3.2.2]
        simp [hn]
      rw [Int.toNat_natCast, e]
      exact hc.1
    · cases h2
  · rintro ⟨⟨h0, h1⟩, h2, h3⟩
    obtain ⟨n, rfl⟩ : ∃ n : Nat, b = (n : Int) := ⟨b.toNat, by omega⟩
    have hn : n < h.berths.length := by omega
    rw [Int.toNat_natCast] at h2
    refine ⟨(h.berths.getD n 0, n), ?_, ?_⟩
    · rw [List.mem_zipIdx_iff_getElem?]
      simp [hn]
    · rw [if_pos ⟨h2, h3⟩]
theorem let_le {h : Harb} {ships : List Ship} {m : Mv} (e : isLet h ships m = true) : (m.length : Int) ≤ h.pilots ∧ (m.map fun p => (shipAt ships p.1).tugs).sum ≤ h.tugs ∧ setLen (m.filterMap fun p => if 0 ≤ p.2 then some p.2 else none) = (m.filterMap fun p => if 0 ≤ p.2 then some p.2 else none).length := by
  unfold isLet at e
  simp only at e
  split at e
  · cases e
  · rename_i hc
    rw [not_or] at hc
    exact ⟨by omega, of_decide_eq_true e, Classical.byContradiction hc.1⟩
theorem sum_mem {l : List Int} (h : ∀ x ∈ l, 0 ≤ x) : 0 ≤ l.sum ∧ ∀ x ∈ l, x ≤ l.sum := by
  induction l with
  | nil => exact ⟨Int.le_refl _, fun x hx => (nomatch hx)⟩
  | cons a l ih =>
    obtain ⟨h1, h2⟩ := ih fun x hx => h x (.tail _ hx)
    have ha := h a (.head _)
    rw [List.sum_cons]
    refine ⟨by omega, fun x hx => ?_⟩
    rcases List.mem_cons.mp hx with rfl | hx
    · omega
    · have := h2 x hx
      omega
theorem shipAt_tugs {ships : List Ship} (ht : ∀ s ∈ ships, 0 ≤ s.tugs) (i : Int) : 0 ≤ (shipAt ships i).tugs := by
  unfold shipAt
  by_cases hi : i.toNat < ships.length
  · rw [List.getD_eq_getElem?_getD, List.getElem?_eq_getElem hi]
    exact ht _ (List.getElem_mem hi)
  · rw [List.getD_eq_getElem?_getD, List.getElem?_eq_none (by omega)]
    decide
theorem shipAt_nat (ships : List Ship) (n : Nat) : shipAt ships (n : Int) = ships.getD n default := by
  unfold shipAt
  rw [Int.toNat_natCast]
theorem let_one {h : Harb} {ships : List Ship} {s : Sta} {lat : Lat} {m : Mv} (w : Wx h ships) (z : Mo h ships s lat m) {n : Nat} {b : Int} (e : act m n = some b) : (ships.getD n default).tugs ≤ h.tugs := by
  have hm := act_mem e
  have hl : isLet h ships m = true := z.ok.resolve_left (by rintro rfl; cases hm)
  have h2 := (let_le hl).2.1
  have h3 := (sum_mem (l := m.map fun p => (shipAt ships p.1).tugs) (fun x hx => by
    obtain ⟨p, _, rfl⟩ := List.mem_map.mp hx
    exact shipAt_tugs w.tg _)).2 _ (List.mem_map.mpr ⟨_, hm, rfl⟩)
  change (shipAt ships (n : Int)).tugs ≤ _ at h3
  rw [shipAt_nat] at h3
  omega
/-- the first best moves -/
def hdOf (h : Harb) (ships : List Ship) (lat : Lat) (s : Sta) : Mv := (bestMoves h ships s lat).headD []
theorem hd_ok {h : Harb} {ships : List Ship} {st : Sta} {lat : Lat} (w : Wd h ships) (t : Stt h ships st) (he : isEnd st.2 = false) (hr : restOf h ships st lat ≠ none) :
    Mo h ships st lat (hdOf h ships lat st) ∧ MvOk ships (hdOf h ships lat st) ∧ Stt h ships (afterMoves ships st (hdOf h ships lat st)) ∧ restOf h ships (afterMoves ships st (hdOf h ships lat st)) lat ≠ none := by
  obtain ⟨m, h1, h2, h3, h4, h5, h6, h7⟩ := best_head w t he hr
  have e : hdOf h ships lat st = m := h2
  rw [e]
  refine ⟨mo_of ?_, h3, h5, h7⟩
  have hm : m ∈ bestMoves h ships st lat := List.mem_of_mem_head? h1
  unfold bestMoves at hm
  obtain ⟨x, hx, rfl⟩ := List.mem_map.mp hm
  unfold waysOn at hx
  split at hx
  · cases hx
  · have hx := (List.mem_filter.mp hx).1
    unfold waysIn at hx
    obtain ⟨m', hm', rfl⟩ := List.mem_map.mp hx
    exact hm'
theorem fuel_pos {h : Harb} {ships : List Ship} {s : Sta} (t : Stt h ships s) : ∃ k, fuelOf h s = k + 1 ∧ ∀ ps, fuelOf h (s.1 + 1, ps) = k := by
  have := t.h1
  refine ⟨fuelOf h s - 1, ?_, fun ps => ?_⟩ <;> (unfold fuelOf; try dsimp only) <;> omega
theorem way_end {h : Harb} {ships : List Ship} {s : Sta} {lat : Lat} (he : isEnd s.2 = true) : wayOn h ships s lat = [] := by
  unfold wayOn
  cases fuelOf h s with
  | zero => rfl
  | succ k =>
    show (if isEnd s.2 = true then [] else _) = _
    rw [if_pos he]
theorem way_step {h : Harb} {ships : List Ship} {s : Sta} {lat : Lat} (t : Stt h ships s) (he : isEnd s.2 = false) : wayOn h ships s lat = ((hdOf h ships lat s).map fun p => (s.1, p.1, p.2)) ++ wayOn h ships (afterMoves ships s (hdOf h ships lat s)) lat := by
  obtain ⟨k, h1, h2⟩ := fuel_pos t
  unfold wayOn
  rw [h1]
  have e : fuelOf h (afterMoves ships s (hdOf h ships lat s)) = k := h2 _
  rw [e]
  show (if isEnd s.2 = true then [] else _) = _
  rw [he, if_neg (by simp)]
  rfl
/-- from the end on back -/
theorem way_ind {h : Harb} {ships : List Ship} {lat : Lat} (w : Wd h ships) {J : Sta → Prop} {P : Sta → List Trip → Prop}
    (he : ∀ s, Stt h ships s → J s → isEnd s.2 = true → P s [])
    (hj : ∀ s m, Stt h ships s → J s → Mo h ships s lat m → J (afterMoves ships s m))
    (hs : ∀ s m, Stt h ships s → J s → Mo h ships s lat m → MvOk ships m → Stt h ships (afterMoves ships s m) → J (afterMoves ships s m) → restOf h ships (afterMoves ships s m) lat ≠ none → P (afterMoves ships s m) (wayOn h ships (afterMoves ships s m) lat) → P s ((m.map fun p => (s.1, p.1, p.2)) ++ wayOn h ships (afterMoves ships s m) lat)) :
    ∀ (k : Nat) (s : Sta), (h.last + 2 - s.1).toNat ≤ k → Stt h ships s → J s → restOf h ships s lat ≠ none → P s (wayOn h ships s lat)
  | 0, s, hk, t, _, _ => by
    have := t.h1
    omega
  | k + 1, s, hk, t, j, hr => by
    cases e : isEnd s.2 with
    | true =>
      rw [way_end e]
      exact he s t j e
    | false =>
      rw [way_step t e]
      obtain ⟨h1, h2, h3, h4⟩ := hd_ok w t e hr
      have hl := h1.la
      have hh : (afterMoves ships s (hdOf h ships lat s)).1 = s.1 + 1 := rfl
      have hj' := hj s _ t j h1
      exact hs s _ t j h1 h2 h3 hj' h4 (way_ind w he hj hs k _ (by rw [hh]; omega) h3 hj' h4)
/-- what the way tells of a ship at the place p, from the hour t on -/
def RowOk (h : Harb) (sh : Ship) (t : Int) (p : Int × Int) (rows : List (Int × Int)) : Prop :=
  (p = GONE ∧ rows = []) ∨
  (p = SEA ∧ ∃ a b o, rows = [(a, b), (o, -1)] ∧ t ≤ a ∧ sh.ready ≤ a ∧ a + sh.stay + 1 ≤ o ∧ o ≤ h.last ∧ sh.draught ≤ depthAt h a ∧ sh.draught ≤ depthAt h o ∧ (0 ≤ b ∧ b < h.berths.length) ∧ sh.length ≤ h.berths.getD b.toNat 0 ∧ sh.tugs ≤ h.tugs) ∨
  (0 ≤ p.1 ∧ ∃ o, rows = [(o, -1)] ∧ t + p.2 ≤ o ∧ t ≤ o ∧ o ≤ h.last ∧ sh.draught ≤ depthAt h o)
theorem end_at {ps : List (Int × Int)} (h : isEnd ps = true) {n : Nat} (hn : n < ps.length) : ps.getD n (0, 0) = GONE := by
  unfold isEnd at h
  rw [List.getD_eq_getElem?_getD, List.getElem?_eq_getElem hn]
  exact of_decide_eq_true (List.all_eq_true.mp h _ (List.getElem_mem hn))
theorem pl_cases {p : Int × Int} (h : p ∈ plSet) : p = GONE ∨ p = SEA ∨ (0 ≤ p.1 ∧ 0 ≤ p.2 ∧ p.2 ≤ 2) := by
  simp only [plSet, List.mem_cons, List.not_mem_nil, or_false] at h
  rcases h with rfl | rfl | rfl | rfl | rfl | rfl | rfl | rfl <;> decide
theorem tick_gone : tick GONE = GONE := by decide
theorem tick_sea : tick SEA = SEA := by decide
theorem tick_at {p : Int × Int} (h : 0 ≤ p.1) : (tick p).1 = p.1 ∧ (tick p).2 = if p.2 - 1 > 0 then p.2 - 1 else 0 := by
  unfold tick
  rw [if_pos h]
  exact ⟨rfl, rfl⟩
theorem stt_pl {h : Harb} {ships : List Ship} {s : Sta} (t : Stt h ships s) {n : Nat} (hn : n < ships.length) : plAt s n ∈ plSet := by
  have : n < s.2.length := by rw [t.pl]; exact hn
  unfold plAt
  rw [List.getD_eq_getElem?_getD, List.getElem?_eq_getElem this]
  exact t.ps _ (List.getElem_mem this)
theorem way_rows {h : Harb} {ships : List Ship} {lat : Lat} (w : Wx h ships) {s : Sta} (t : Stt h ships s) (hr : restOf h ships s lat ≠ none) : ∀ n, n < ships.length → RowOk h (ships.getD n default) s.1 (plAt s n) (rowsFor (wayOn h ships s lat) n) := by
  refine way_ind (J := fun _ => True) (P := fun s W => ∀ n, n < ships.length → RowOk h (ships.getD n default) s.1 (plAt s n) (rowsFor W n)) w.wd ?_ (fun _ _ _ _ _ => trivial) ?_ _ s (Nat.le_refl _) t trivial hr
  · intro s t _ he n hn
    exact .inl ⟨end_at he (by rw [t.pl]; exact hn), rfl⟩
  · intro s m t _ z _ t' _ _ ih n hn
    generalize wayOn h ships (afterMoves ships s m) lat = W at ih ⊢
    have ih := ih n hn
    have hst : 0 ≤ (ships.getD n default).stay := by
      rw [List.getD_eq_getElem?_getD, List.getElem?_eq_getElem hn]
      exact (w.wd.st _ (List.getElem_mem hn)).1
    rw [rows_app, rows_hour z.asc]
    have hpl : plAt (afterMoves ships s m) n = match act m n with | some b => landed ships ((n : Int), b) | none => tick (plAt s n) := after_at z (by rw [t.pl]; exact hn)
    have hh : (afterMoves ships s m).1 = s.1 + 1 := rfl
    rw [hpl, hh] at ih
    cases ea : act m n with
    | none =>
      rw [ea] at ih
      simp only [List.nil_append] at ih ⊢
      rcases pl_cases (stt_pl t hn) with e | e | ⟨e1, e2, e3⟩
      · rw [e] at ih ⊢
        rw [tick_gone] at ih
        rcases ih with ih | ih | ih
        · exact .inl ih
        · exact absurd ih.1 (by decide)
        · exact absurd ih.1 (by decide)
      · rw [e] at ih ⊢
        rw [tick_sea] at ih
        rcases ih with ih | ih | ih
        · exact absurd ih.1 (by decide)
        · obtain ⟨_, a, b, o, h1, h2, h3⟩ := ih
          exact .inr (.inl ⟨rfl, a, b, o, h1, by omega, h3⟩)
        · exact absurd ih.1 (by decide)
      · obtain ⟨k1, k2⟩ := tick_at e1
        rcases ih with ih | ih | ih
        · rw [ih.1] at k1
          change (-2 : Int) = _ at k1
          omega
        · rw [ih.1] at k1
          change (-1 : Int) = _ at k1
          omega
        · obtain ⟨_, o, h1, h2, h3⟩ := ih
          rw [k2] at h2
          refine .inr (.inr ⟨e1, o, h1, ?_, by omega, h3.2⟩)
          split at h2 <;> omega
    | some b =>
      obtain ⟨_, hb⟩ := z.act ea
      have htg := let_one w z ea
      rw [ea] at ih
      simp only at ih ⊢
      obtain ⟨hd, hc⟩ := row_mem.mp hb
      rcases hc with ⟨e, hrd, hbb⟩ | ⟨e1, e2, _, rfl⟩
      · obtain ⟨h0, h1, _⟩ := berths_mem.mp hbb
        have el : landed ships ((n : Int), b) = (b, (ships.getD n default).stay) := by
          unfold landed
          rw [if_neg (by show ¬ b = -1; omega), shipAt_nat]
        rw [el] at ih
        rcases ih with ih | ih | ih
        · have := congrArg Prod.fst ih.1
          change b = -2 at this
          omega
        · have := congrArg Prod.fst ih.1
          change b = -1 at this
          omega
        · obtain ⟨_, o, k1, k2, k3, k4, k5⟩ := ih
          change s.1 + 1 + (ships.getD n default).stay ≤ o at k2
          exact .inr (.inl ⟨e, s.1, b, o, by rw [k1]; rfl, Int.le_refl _, hrd, by omega, k4, hd, k5, h0, h1, htg⟩)
      · have el : landed ships ((n : Int), -1) = GONE := by
          unfold landed
          rw [if_pos rfl]
        rw [el] at ih
        rcases ih with ih | ih | ih
        · refine .inr (.inr ⟨e1, s.1, by rw [ih.2]; rfl, by omega, Int.le_refl _, z.la, hd⟩)
        · exact absurd ih.1 (by decide)
        · exact absurd ih.1 (by decide)
end TW
/-! WM3: two ships on the way: berths, tugs, pilots. -/
namespace TW
open PyProof.Rows
def Occ (t : Int) (p : Int × Int) (rows : List (Int × Int)) (b f o : Int) : Prop := (p = SEA ∧ rows = [(f, b), (o, -1)]) ∨ (0 ≤ p.1 ∧ p.1 = b ∧ f = t ∧ rows = [(o, -1)])
def Dis (s : Sta) : Prop := 0 ≤ (plAt s 0).1 → (plAt s 0).1 ≠ (plAt s 1).1
theorem pl_mem {s : Sta} {n : Nat} (h : n < s.2.length) : (plAt s n).1 ∈ s.2.map (·.1) := by
  unfold plAt
  rw [List.getD_eq_getElem?_getD, List.getElem?_eq_getElem h]
  exact List.mem_map.mpr ⟨_, List.getElem_mem h, rfl⟩
/-- what a ship's deed does to its place -/
theorem deed {h : Harb} {ships : List Ship} {s : Sta} {lat : Lat} {m : Mv} (t : Stt h ships s) (z : Mo h ships s lat m) {n : Nat} (hn : n < ships.length) :
    (act m n = none ∧ plAt (afterMoves ships s m) n = tick (plAt s n)) ∨
    (∃ b, act m n = some b ∧ plAt s n = SEA ∧ (ships.getD n default).ready ≤ s.1 ∧ (0 ≤ b ∧ b < h.berths.length) ∧ ¬ b ∈ s.2.map (·.1) ∧ plAt (afterMoves ships s m) n = (b, (ships.getD n default).stay)) ∨
    (act m n = some (-1) ∧ 0 ≤ (plAt s n).1 ∧ plAt (afterMoves ships s m) n = GONE) := by
  have hpl : plAt (afterMoves ships s m) n = match act m n with | some b => landed ships ((n : Int), b) | none => tick (plAt s n) := after_at z (by rw [t.pl]; exact hn)
  cases ea : act m n with
  | none =>
    rw [ea] at hpl
    exact .inl ⟨rfl, hpl⟩
  | some b =>
    rw [ea] at hpl
    simp only at hpl
    obtain ⟨_, hb⟩ := z.act ea
    obtain ⟨hd, hc⟩ := row_mem.mp hb
    rcases hc with ⟨e, hrd, hbb⟩ | ⟨e1, e2, _, rfl⟩
    · obtain ⟨h0, h1, h2⟩ := berths_mem.mp hbb
      refine .inr (.inl ⟨b, rfl, e, hrd, h0, h2, ?_⟩)
      rw [hpl]
      unfold landed
      rw [if_neg (by show ¬ b = -1; omega), shipAt_nat]
    · refine .inr (.inr ⟨rfl, e1, ?_⟩)
      rw [hpl]
      unfold landed
      rw [if_pos rfl]
theorem occ_step {h : Harb} {ships : List Ship} {s : Sta} {lat : Lat} {m : Mv} {R : List (Int × Int)} {n : Nat} {b f o : Int} (w : Wx h ships) (t : Stt h ships s) (z : Mo h ships s lat m) (hn : n < ships.length)
    (rk : RowOk h (ships.getD n default) (s.1 + 1) (plAt (afterMoves ships s m) n) R) (oc : Occ s.1 (plAt s n) ((match act m n with | some b => [(s.1, b)] | none => []) ++ R) b f o) :
    (s.1 + 1 ≤ f ∧ f ≤ o ∧ Occ (s.1 + 1) (plAt (afterMoves ships s m) n) R b f o) ∨
    (f = s.1 ∧ s.1 + 1 ≤ o ∧ Occ (s.1 + 1) (plAt (afterMoves ships s m) n) R b (s.1 + 1) o ∧ ((plAt s n).1 = b ∨ ¬ b ∈ s.2.map (·.1))) ∨
    (f = s.1 ∧ o = s.1 ∧ (plAt s n).1 = b ∧ 0 ≤ b) := by
  have hst : 0 ≤ (ships.getD n default).stay := by
    rw [List.getD_eq_getElem?_getD, List.getElem?_eq_getElem hn]
    exact (w.wd.st _ (List.getElem_mem hn)).1
  rcases oc with ⟨e, er⟩ | ⟨e1, e2, rfl, er⟩
  · rcases deed t z hn with ⟨ea, hp⟩ | ⟨b', ea, _, _, hb, hnb, hp⟩ | ⟨ea, h0, hp⟩
    · rw [ea] at er
      simp only [List.nil_append] at er
      rw [hp, e, tick_sea] at rk ⊢
      rcases rk with rk | rk | rk
      · exact absurd rk.1 (by decide)
      · obtain ⟨_, a, b1, o1, k1, k2, k3, k4, _⟩ := rk
        rw [er] at k1
        cases k1
        exact .inl ⟨k2, by omega, .inl ⟨rfl, er⟩⟩
      · exact absurd rk.1 (by decide)
    · rw [ea] at er
      simp only [List.cons_append, List.nil_append, List.cons.injEq, Prod.mk.injEq] at er
      obtain ⟨⟨rfl, rfl⟩, er⟩ := er
      rw [hp] at rk ⊢
      rcases rk with rk | rk | rk
      · have := congrArg Prod.fst rk.1
        change b' = -2 at this
        omega
      · have := congrArg Prod.fst rk.1
        change b' = -1 at this
        omega
      · obtain ⟨_, o1, k1, k2, k3, _⟩ := rk
        rw [er] at k1
        cases k1
        exact .inr (.inl ⟨rfl, k3, .inr ⟨hb.1, rfl, rfl, er⟩, .inr hnb⟩)
    · rw [e] at h0
      exact absurd h0 (by decide)
  · rcases deed t z hn with ⟨ea, hp⟩ | ⟨b', ea, es, _, hb, hnb, hp⟩ | ⟨ea, h0, hp⟩
    · rw [ea] at er
      simp only [List.nil_append] at er
      obtain ⟨k1, k2⟩ := tick_at e1
      rw [hp] at rk ⊢
      rcases rk with rk | rk | rk
      · rw [rk.1] at k1
        change (-2 : Int) = _ at k1
        omega
      · rw [rk.1] at k1
        change (-1 : Int) = _ at k1
        omega
      · obtain ⟨_, o1, j1, j2, j3, _⟩ := rk
        rw [er] at j1
        cases j1
        exact .inr (.inl ⟨rfl, j3, .inr ⟨by omega, by omega, rfl, er⟩, .inl e2⟩)
    · rw [es] at e1
      exact absurd e1 (by decide)
    · rw [ea] at er
      simp only [List.cons_append, List.nil_append, List.cons.injEq, Prod.mk.injEq] at er
      exact .inr (.inr ⟨rfl, er.1.1.symm, e2, by omega⟩)
theorem two_moves {h : Harb} {ships : List Ship} {s : Sta} {lat : Lat} {m : Mv} (h2 : ships.length = 2) (z : Mo h ships s lat m) {b0 b1 : Int} (e0 : act m 0 = some b0) (e1 : act m 1 = some b1) : m = [(0, b0), (1, b1)] := by
  have row : ∀ p ∈ m, p.1 = 0 ∨ p.1 = 1 := fun p hp => by
    obtain ⟨n, k1, k2, _⟩ := z.row p hp
    omega
  have asc := z.asc
  have m0 := act_mem e0
  have m1 := act_mem e1
  match m with
  | [] => cases m0
  | [p] =>
    have q0 := List.mem_singleton.mp m0
    have q1 := List.mem_singleton.mp m1
    rw [← q0] at q1
    have := congrArg Prod.fst q1
    change (1 : Int) = 0 at this
    omega
  | [p, q] =>
    rw [List.pairwise_cons] at asc
    have l1 := asc.1 q (.head _)
    have rp := row p (.head _)
    have rq := row q (.tail _ (.head _))
    have p0 : p.1 = 0 := by omega
    have q1 : q.1 = 1 := by omega
    rcases List.mem_cons.mp m0 with a | a
    · rcases List.mem_cons.mp m1 with c | c
      · rw [← c] at p0
        change (1 : Int) = 0 at p0
        omega
      · rw [← a, ← List.mem_singleton.mp c]
        rfl
    · rw [← List.mem_singleton.mp a] at q1
      change (0 : Int) = 1 at q1
      omega
  | p :: q :: r :: rest =>
    rw [List.pairwise_cons, List.pairwise_cons] at asc
    have l1 := asc.1 q (.head _)
    have l2 := asc.2.1 r (.head _)
    have rp := row p (.head _)
    have rr := row r (.tail _ (.tail _ (.head _)))
    omega
theorem two_let {h : Harb} {ships : List Ship} {b0 b1 : Int} (e : isLet h ships [(0, b0), (1, b1)] = true) : 1 < h.pilots ∧ (ships.getD 0 default).tugs + (ships.getD 1 default).tugs ≤ h.tugs ∧ (0 ≤ b0 → b0 ≠ b1) := by
  obtain ⟨k1, k2, k3⟩ := let_le e
  refine ⟨?_, ?_, fun hb he => ?_⟩
  · have : (2 : Int) ≤ h.pilots := k1
    omega
  · have : (shipAt ships 0).tugs + ((shipAt ships 1).tugs + 0) ≤ h.tugs := k2
    have q0 : shipAt ships 0 = ships.getD 0 default := rfl
    have q1 : shipAt ships 1 = ships.getD 1 default := rfl
    rw [q0, q1] at this
    omega
  · subst he
    have el : ([((0 : Int), b0), (1, b0)].filterMap fun p => if 0 ≤ p.2 then some p.2 else none) = [b0, b0] := by simp [hb]
    rw [el] at k3
    unfold setLen at k3
    have : firstMet (fun i => [b0, b0].getD i 0) [b0, b0].length = [b0] := by
      unfold firstMet
      show List.foldl _ _ [b0, b0] = _
      rw [List.foldl_cons, List.foldl_cons, List.foldl_nil]
      simp [step_dedup]
    rw [this] at k3
    change 1 = 2 at k3
    omega
theorem dis_step {h : Harb} {ships : List Ship} {s : Sta} {lat : Lat} {m : Mv} (h2 : ships.length = 2) (t : Stt h ships s) (z : Mo h ships s lat m) (d : Dis s) : Dis (afterMoves ships s m) := by
  intro h0 he
  have i0 := pl_mem (s := s) (n := 0) (by rw [t.pl]; omega)
  have i1 := pl_mem (s := s) (n := 1) (by rw [t.pl]; omega)
  rcases deed t z (n := 0) (by omega) with ⟨ea, hp⟩ | ⟨b, ea, _, _, hb, hnb, hp⟩ | ⟨ea, _, hp⟩
  · have e0 : (plAt (afterMoves ships s m) 0).1 = (plAt s 0).1 := by rw [hp]; rfl
    rcases deed t z (n := 1) (by omega) with ⟨ea', hp'⟩ | ⟨b', ea', _, _, hb', hnb', hp'⟩ | ⟨ea', _, hp'⟩
    · have e1 : (plAt (afterMoves ships s m) 1).1 = (plAt s 1).1 := by rw [hp']; rfl
      rw [e0] at h0
      rw [e0, e1] at he
      exact d h0 he
    · rw [e0, hp'] at he
      rw [he] at i0
      exact hnb' i0
    · rw [hp'] at he
      change _ = (-2 : Int) at he
      omega
  · rcases deed t z (n := 1) (by omega) with ⟨ea', hp'⟩ | ⟨b', ea', _, _, hb', hnb', hp'⟩ | ⟨ea', _, hp'⟩
    · have e1 : (plAt (afterMoves ships s m) 1).1 = (plAt s 1).1 := by rw [hp']; rfl
      rw [e1, hp] at he
      rw [← he] at i1
      exact hnb i1
    · rw [hp, hp'] at he
      have em := two_moves h2 z ea ea'
      have hl : isLet h ships m = true := z.ok.resolve_left (by rw [em]; simp)
      rw [em] at hl
      exact (two_let hl).2.2 hb.1 he
    · rw [hp'] at he
      change _ = (-2 : Int) at he
      omega
  · rw [hp] at h0
    exact absurd h0 (by decide)
theorem row_hours {h : Harb} {sh : Ship} {t : Int} {p : Int × Int} {R : List (Int × Int)} (hs : 0 ≤ sh.stay) (k : RowOk h sh t p R) : ∀ e ∈ R, t ≤ e.1 := by
  intro e he
  rcases k with ⟨_, rfl⟩ | ⟨_, a, b, o, rfl, k1, k2, k3, _⟩ | ⟨_, o, rfl, _, k2, _⟩
  · cases he
  · rcases List.mem_cons.mp he with rfl | he
    · exact k1
    · rw [List.mem_singleton.mp he]
      show t ≤ o
      omega
  · rw [List.mem_singleton.mp he]
    exact k2
structure Pair (h : Harb) (ships : List Ship) (s : Sta) (W : List Trip) : Prop where
  meet : ∀ x, x ∈ (rowsFor W 0).map (·.1) → x ∈ (rowsFor W 1).map (·.1) → 1 < h.pilots ∧ (ships.getD 0 default).tugs + (ships.getD 1 default).tugs ≤ h.tugs
  over : ∀ b f0 o0 f1 o1, Occ s.1 (plAt s 0) (rowsFor W 0) b f0 o0 → Occ s.1 (plAt s 1) (rowsFor W 1) b f1 o1 → o0 < f1 ∨ o1 < f0
theorem way_pair {h : Harb} {ships : List Ship} {lat : Lat} (w : Wx h ships) (h2 : ships.length = 2) {s : Sta} (t : Stt h ships s) (d : Dis s) (hr : restOf h ships s lat ≠ none) : Pair h ships s (wayOn h ships s lat) := by
  refine way_ind (J := Dis) (P := Pair h ships) w.wd ?_ (fun s m t j z => dis_step h2 t z j) ?_ _ s (Nat.le_refl _) t d hr
  · intro s t _ he
    have e0 : plAt s 0 = GONE := end_at he (by rw [t.pl]; omega)
    refine ⟨fun x hx => (nomatch hx), fun b f0 o0 f1 o1 h0 _ => ?_⟩
    rw [e0] at h0
    rcases h0 with h0 | h0
    · exact absurd h0.1 (by decide)
    · exact absurd h0.1 (by decide)
  · intro s m t dd z mo t' d' hr' ih
    have hst : ∀ n, n < ships.length → 0 ≤ (ships.getD n default).stay := fun n hn => by
      rw [List.getD_eq_getElem?_getD, List.getElem?_eq_getElem hn]
      exact (w.wd.st _ (List.getElem_mem hn)).1
    have rk0 := way_rows w t' hr' 0 (by omega)
    have rk1 := way_rows w t' hr' 1 (by omega)
    have i0 := pl_mem (s := s) (n := 0) (by rw [t.pl]; omega)
    have i1 := pl_mem (s := s) (n := 1) (by rw [t.pl]; omega)
    generalize wayOn h ships (afterMoves ships s m) lat = W at ih rk0 rk1 ⊢
    have hh : (afterMoves ships s m).1 = s.1 + 1 := rfl
    rw [hh] at rk0 rk1
    obtain ⟨ih1, ih2⟩ := ih
    rw [hh] at ih2
    refine ⟨fun x hx hy => ?_, fun b f0 o0 f1 o1 c0 c1 => ?_⟩
    · rw [rows_app, rows_hour z.asc, List.map_append, List.mem_append] at hx hy
      have g0 : x ∈ (rowsFor W 0).map (·.1) → s.1 + 1 ≤ x := fun hx => by
        obtain ⟨e, he, rfl⟩ := List.mem_map.mp hx
        exact row_hours (hst 0 (by omega)) rk0 e he
      have g1 : x ∈ (rowsFor W 1).map (·.1) → s.1 + 1 ≤ x := fun hx => by
        obtain ⟨e, he, rfl⟩ := List.mem_map.mp hx
        exact row_hours (hst 1 (by omega)) rk1 e he
      have k0 : x ∈ ((match act m 0 with | some b => [(s.1, b)] | none => []) : List (Int × Int)).map (·.1) → x = s.1 ∧ ∃ b, act m 0 = some b := fun hx => by
        cases e : act m 0 with
        | none => rw [e] at hx; cases hx
        | some b =>
          rw [e] at hx
          exact ⟨List.mem_singleton.mp hx, b, rfl⟩
      have k1 : x ∈ ((match act m 1 with | some b => [(s.1, b)] | none => []) : List (Int × Int)).map (·.1) → x = s.1 ∧ ∃ b, act m 1 = some b := fun hx => by
        cases e : act m 1 with
        | none => rw [e] at hx; cases hx
        | some b =>
          rw [e] at hx
          exact ⟨List.mem_singleton.mp hx, b, rfl⟩
      rcases hx with hx | hx
      · obtain ⟨rfl, b0, e0⟩ := k0 hx
        rcases hy with hy | hy
        · obtain ⟨_, b1, e1⟩ := k1 hy
          have em := two_moves h2 z e0 e1
          have hl : isLet h ships m = true := z.ok.resolve_left (by rw [em]; simp)
          rw [em] at hl
          exact ⟨(two_let hl).1, (two_let hl).2.1⟩
        · have := g1 hy
          omega
      · rcases hy with hy | hy
        · have := (k1 hy).1
          have := g0 hx
          omega
        · exact ih1 x hx hy
    · rw [rows_app, rows_hour z.asc] at c0 c1
      rcases occ_step w t z (by omega) rk0 c0 with ⟨a1, a2, a3⟩ | ⟨a1, a2, a3, a4⟩ | ⟨a1, a2, a3, a4⟩
      · rcases occ_step w t z (by omega) rk1 c1 with ⟨b1, b2, b3⟩ | ⟨b1, b2, b3, b4⟩ | ⟨b1, b2, b3, b4⟩
        · exact ih2 b f0 o0 f1 o1 a3 b3
        · have := ih2 b f0 o0 (s.1 + 1) o1 a3 b3
          omega
        · omega
      · rcases occ_step w t z (by omega) rk1 c1 with ⟨b1, b2, b3⟩ | ⟨b1, b2, b3, b4⟩ | ⟨b1, b2, b3, b4⟩
        · have := ih2 b (s.1 + 1) o0 f1 o1 a3 b3
          omega
        · have := ih2 b (s.1 + 1) o0 (s.1 + 1) o1 a3 b3
          omega
        · rcases a4 with a4 | a4
          · exact absurd (a4.trans b3.symm) (dd (by omega))
          · rw [b3] at i1
            exact absurd i1 a4
      · rcases occ_step w t z (by omega) rk1 c1 with ⟨b1, b2, b3⟩ | ⟨b1, b2, b3, b4⟩ | ⟨b1, b2, b3, b4⟩
        · omega
        · rcases b4 with b4 | b4
          · exact absurd (a3.trans b4.symm) (dd (by omega))
          · rw [a3] at i0
            exact absurd i0 b4
        · exact absurd (a3.trans b3.symm) (dd (by omega))
end TW
/-! WM4: tuples of ships alone; whether there is a plan: from the way to the tuples. -/
namespace TW
def irange (lo hi : Int) : List Int := (List.range (hi - lo).toNat).map fun (i : Nat) => lo + (i : Int)
theorem irange_mem {lo hi x : Int} : x ∈ irange lo hi ↔ lo ≤ x ∧ x < hi := by
  unfold irange
  rw [List.mem_map]
  constructor
  · rintro ⟨i, hr, rfl⟩
    have := List.mem_range.mp hr
    omega
  · rintro ⟨h1, h2⟩
    exact ⟨(x - lo).toNat, List.mem_range.mpr (by omega), by omega⟩
def deepOf (h : Harb) (a o : Int) : Int := if depthAt h o < depthAt h a then depthAt h o else depthAt h a
def tupB (h : Harb) (s : Ship) (a o b : Int) : Bool := decide (s.draught ≤ deepOf h a o) && (decide (s.length ≤ h.berths.getD b.toNat 0) && decide (s.tugs ≤ h.tugs))
def tupBs (h : Harb) (s : Ship) (a o : Int) : List Trip := (irange 0 h.berths.length).filterMap fun b => if tupB h s a o b = true then some (a, b, o) else none
def tupOs (h : Harb) (s : Ship) (a : Int) : List Trip := (irange (a + s.stay + 1) (h.last + 1)).flatMap fun o => tupBs h s a o
def tuplesOf (h : Harb) (s : Ship) : List Trip := (irange s.ready (h.last + 1)).flatMap fun a => tupOs h s a
theorem tuples_mem {h : Harb} {s : Ship} {a b o : Int} (hs : 0 ≤ s.stay) : (a, b, o) ∈ tuplesOf h s ↔ s.ready ≤ a ∧ a + s.stay + 1 ≤ o ∧ o ≤ h.last ∧ s.draught ≤ depthAt h a ∧ s.draught ≤ depthAt h o ∧ (0 ≤ b ∧ b < h.berths.length) ∧ s.length ≤ h.berths.getD b.toNat 0 ∧ s.tugs ≤ h.tugs := by
  have dp : s.draught ≤ deepOf h a o ↔ s.draught ≤ depthAt h a ∧ s.draught ≤ depthAt h o := by
    unfold deepOf
    split <;> omega
  unfold tuplesOf tupOs tupBs
  simp only [List.mem_flatMap, List.mem_filterMap, irange_mem]
  constructor
  · rintro ⟨a', ⟨h1, h2⟩, o', ⟨h3, h4⟩, b', ⟨h5, h6⟩, h7⟩
    split at h7
    · rename_i hc
      simp only [Option.some.injEq, Prod.mk.injEq] at h7
      obtain ⟨rfl, rfl, rfl⟩ := h7
      unfold tupB at hc
      simp only [Bool.and_eq_true, decide_eq_true_eq] at hc
      obtain ⟨k1, k2, k3⟩ := hc
      have := dp.mp k1
      exact ⟨h1, h3, by omega, this.1, this.2, ⟨h5, h6⟩, k2, k3⟩
    · cases h7
  · rintro ⟨h1, h2, h3, h4, h5, h6, h7, h8⟩
    refine ⟨a, ⟨h1, by omega⟩, o, ⟨h2, by omega⟩, b, h6, ?_⟩
    rw [if_pos]
    unfold tupB
    simp only [Bool.and_eq_true, decide_eq_true_eq]
    exact ⟨dp.mpr ⟨h4, h5⟩, h7, h8⟩
def rowsAt (h : Harb) (ships : List Ship) (n : Nat) : List Trip := (ships.map (tuplesOf h)).getD n []
def hasPlanB (h : Harb) (ships : List Ship) : Bool :=
  if ships.length = 1 then decide (0 < (rowsAt h ships 0).length)
  else (rowsAt h ships 0).any fun a => (rowsAt h ships 1).any fun b => besideB h ships a b
theorem rowsAt_eq {h : Harb} {ships : List Ship} {n : Nat} (hn : n < ships.length) : rowsAt h ships n = tuplesOf h (ships.getD n default) := by
  unfold rowsAt
  simp [hn]
theorem beside_iff {h : Harb} {ships : List Ship} {a b : Trip} : besideB h ships a b = true ↔ ¬ (a.2.1 = b.2.1 ∧ b.1 ≤ a.2.2 ∧ a.1 ≤ b.2.2) ∧ ((¬ (a.1 = b.1 ∨ a.1 = b.2.2) ∧ ¬ (a.2.2 = b.1 ∨ a.2.2 = b.2.2)) ∨ (1 < h.pilots ∧ (ships.getD 0 default).tugs + (ships.getD 1 default).tugs ≤ h.tugs)) := by
  unfold besideB
  split
  · rename_i hc
    simp only [Bool.and_eq_true, decide_eq_true_eq] at hc
    simp only [Bool.false_eq_true, false_iff]
    intro z
    exact z.1 ⟨hc.1, hc.2.1, hc.2.2⟩
  · rename_i hc
    simp only [Bool.and_eq_true, decide_eq_true_eq] at hc
    split
    · rename_i hd
      simp only [Bool.and_eq_true, Bool.not_eq_true', decide_eq_false_iff_not, List.mem_cons, List.not_mem_nil, or_false] at hd
      simp only [true_iff]
      exact ⟨fun z => hc ⟨z.1, z.2.1, z.2.2⟩, .inl hd⟩
    · rename_i hd
      simp only [Bool.and_eq_true, Bool.not_eq_true', decide_eq_false_iff_not, List.mem_cons, List.not_mem_nil, or_false] at hd
      simp only [Bool.and_eq_true, decide_eq_true_eq]
      constructor
      · exact fun z => ⟨fun y => hc ⟨y.1, y.2.1, y.2.2⟩, .inr z⟩
      · exact fun z => z.2.resolve_left hd
theorem begin_at (ships : List Ship) {n : Nat} (hn : n < ships.length) : plAt (beginOf ships) n = SEA := by
  unfold plAt beginOf
  simp [hn]
theorem stay_at {h : Harb} {ships : List Ship} (w : Wx h ships) {n : Nat} (hn : n < ships.length) : 0 ≤ (ships.getD n default).stay := by
  rw [List.getD_eq_getElem?_getD, List.getElem?_eq_getElem hn]
  exact (w.wd.st _ (List.getElem_mem hn)).1
theorem begin_dis (ships : List Ship) (h2 : ships.length = 2) : Dis (beginOf ships) := by
  intro h0
  rw [begin_at ships (by omega)] at h0
  exact absurd h0 (by decide)
/-- what the way of the beginning tells of a ship -/
theorem way_tuple {h : Harb} {ships : List Ship} {lat : Lat} (w : Wx h ships) (t : Stt h ships (beginOf ships)) (hr : restOf h ships (beginOf ships) lat ≠ none) {n : Nat} (hn : n < ships.length) :
    ∃ a b o, rowsFor (wayOn h ships (beginOf ships) lat) n = [(a, b), (o, -1)] ∧ (a, b, o) ∈ rowsAt h ships n := by
  have rk := way_rows w t hr n hn
  rw [begin_at ships hn] at rk
  rcases rk with rk | rk | rk
  · exact absurd rk.1 (by decide)
  · obtain ⟨_, a, b, o, k1, k2, k3, k4, k5, k6, k7, k8, k9, k10⟩ := rk
    refine ⟨a, b, o, k1, ?_⟩
    rw [rowsAt_eq hn, tuples_mem (stay_at w hn)]
    exact ⟨k3, k4, k5, k6, k7, k8, k9, k10⟩
  · exact absurd rk.1 (by decide)
theorem way_plan {h : Harb} {ships : List Ship} {lat : Lat} (w : Wx h ships) (t : Stt h ships (beginOf ships)) (h12 : ships.length = 1 ∨ ships.length = 2) (hr : restOf h ships (beginOf ships) lat ≠ none) : hasPlanB h ships = true := by
  unfold hasPlanB
  rcases h12 with h1 | h2
  · rw [if_pos h1]
    obtain ⟨a, b, o, _, hm⟩ := way_tuple w t hr (n := 0) (by omega)
    exact decide_eq_true (List.length_pos_of_mem hm)
  · rw [if_neg (by omega)]
    obtain ⟨a0, b0, o0, r0, hm0⟩ := way_tuple w t hr (n := 0) (by omega)
    obtain ⟨a1, b1, o1, r1, hm1⟩ := way_tuple w t hr (n := 1) (by omega)
    have pr := way_pair w h2 t (begin_dis ships h2) hr
    rw [List.any_eq_true]
    refine ⟨_, hm0, ?_⟩
    rw [List.any_eq_true]
    refine ⟨_, hm1, ?_⟩
    rw [beside_iff]
    obtain ⟨m1, m2⟩ := pr
    rw [r0, r1] at m1 m2
    rw [begin_at ships (by omega), begin_at ships (by omega)] at m2
    refine ⟨fun z => ?_, ?_⟩
    · obtain ⟨z1, z2, z3⟩ := z
      change b0 = b1 at z1
      change a1 ≤ o0 at z2
      change a0 ≤ o1 at z3
      subst z1
      have := m2 b0 a0 o0 a1 o1 (.inl ⟨rfl, rfl⟩) (.inl ⟨rfl, rfl⟩)
      omega
    · by_cases e1 : a0 = a1 ∨ a0 = o1
      · right
        refine m1 a0 (.head _) ?_
        rcases e1 with e1 | e1
        · rw [e1]
          exact .head _
        · rw [e1]
          exact .tail _ (.head _)
      · by_cases e2 : o0 = a1 ∨ o0 = o1
        · right
          refine m1 o0 (.tail _ (.head _)) ?_
          rcases e2 with e2 | e2
          · rw [e2]
            exact .head _
          · rw [e2]
            exact .tail _ (.head _)
        · exact .inl ⟨e1, e2⟩
end TW
/-! WM5: from the tuples to the way. -/
namespace TW
open PyProof.Rows
theorem least_some {l : List (Option Int)} {x : Int} (h : some x ∈ l) : leastOf l ≠ none := by
  unfold leastOf
  intro z
  rw [List.min?_eq_none_iff] at z
  have : x ∈ l.filterMap id := List.mem_filterMap.mpr ⟨_, h, rfl⟩
  rw [z] at this
  cases this
theorem rest_back {h : Harb} {ships : List Ship} {lat : Lat} (w : Wd h ships) {S : Int → Sta} (hS : ∀ t, 0 ≤ t → t ≤ h.last + 1 → Stt h ships (S t)) (he : isEnd (S (h.last + 1)).2 = true)
    (step : ∀ t, 0 ≤ t → t ≤ h.last → isEnd (S t).2 = false → ∃ m, m ∈ movesIn h ships (S t) lat ∧ afterMoves ships (S t) m = S (t + 1)) : ∀ (k : Nat) (t : Int), 0 ≤ t → t ≤ h.last + 1 → (h.last + 1 - t).toNat ≤ k → restOf h ships (S t) lat ≠ none
  | k, t, h0, h1, hk => by
    rw [restOf_eq w (hS t h0 h1)]
    cases e : isEnd (S t).2 with
    | true =>
      rw [if_pos rfl]
      exact fun z => by cases z
    | false =>
      rw [if_neg (by simp)]
      have hl : t ≤ h.last := by
        by_cases c : t ≤ h.last
        · exact c
        · have : t = h.last + 1 := by omega
          rw [this, he] at e
          cases e
      obtain ⟨k', rfl⟩ : ∃ k', k = k' + 1 := ⟨k - 1, by omega⟩
      obtain ⟨m, hm, hm2⟩ := step t h0 hl e
      have ih := rest_back w hS he step k' (t + 1) (by omega) (by omega) (by omega)
      obtain ⟨r, hr⟩ := Option.ne_none_iff_exists'.mp ih
      refine least_some (x := costIn ships (S t) m + r) (List.mem_map.mpr ⟨(m, costIn ships (S t) m, afterMoves ships (S t) m), ?_, ?_⟩)
      · unfold waysIn
        exact List.mem_map.mpr ⟨m, hm, rfl⟩
      · show addedOf _ (restOf h ships (afterMoves ships (S t) m) lat) = _
        rw [hm2, hr]
        rfl
theorem more_keep {h : Harb} {ships : List Ship} {n : Nat} {row : List Int} {f : List Mv} {m : Mv} (hm : m ∈ f) : m ∈ moreOf h ships n row f := List.mem_append_left _ hm
theorem more_add {h : Harb} {ships : List Ship} {n : Nat} {row : List Int} {f : List Mv} {m : Mv} {b : Int} (hm : m ∈ f) (hb : b ∈ row) (hl : isLet h ships (m ++ [((n : Int), b)]) = true) : m ++ [((n : Int), b)] ∈ moreOf h ships n row f :=
  List.mem_append_right _ (List.mem_filter.mpr ⟨List.mem_flatMap.mpr ⟨m, hm, List.mem_map.mpr ⟨b, hb, rfl⟩⟩, hl⟩)
/-- the place of a ship with this tuple -/
def posT (s : Ship) (τ : Trip) (t : Int) : Int × Int := if t ≤ τ.1 then SEA else if t ≤ τ.2.2 then (τ.2.1, if s.stay - (t - τ.1 - 1) > 0 then s.stay - (t - τ.1 - 1) else 0) else GONE
def actT (τ : Trip) (t : Int) : Option Int := if t = τ.1 then some τ.2.1 else if t = τ.2.2 then some (-1) else none
structure Good (h : Harb) (s : Ship) (τ : Trip) : Prop where
  r0 : 0 ≤ s.ready
  s0 : 0 ≤ s.stay ∧ s.stay ≤ 2
  rd : s.ready ≤ τ.1
  st : τ.1 + s.stay + 1 ≤ τ.2.2
  la : τ.2.2 ≤ h.last
  d1 : s.draught ≤ depthAt h τ.1
  d2 : s.draught ≤ depthAt h τ.2.2
  b : 0 ≤ τ.2.1 ∧ τ.2.1 < h.berths.length
  ln : s.length ≤ h.berths.getD τ.2.1.toNat 0
  tg : s.tugs ≤ h.tugs
theorem good_of {h : Harb} {ships : List Ship} (w : Wx h ships) {n : Nat} (hn : n < ships.length) {τ : Trip} (hm : τ ∈ rowsAt h ships n) : Good h (ships.getD n default) τ := by
  have hs : ships.getD n default ∈ ships := by
    rw [List.getD_eq_getElem?_getD, List.getElem?_eq_getElem hn]
    exact List.getElem_mem hn
  rw [rowsAt_eq hn] at hm
  obtain ⟨a, b, o⟩ := τ
  obtain ⟨k1, k2, k3, k4, k5, k6, k7, k8⟩ := (tuples_mem (stay_at w hn)).mp hm
  exact ⟨w.ry _ hs, w.wd.st _ hs, k1, k2, k3, k4, k5, k6, k7, k8⟩
section
variable {h : Harb} {s : Ship} {τ : Trip} {t : Int}
theorem pos_next (g : Good h s τ) : posT s τ (t + 1) = match actT τ t with | some b => (if b = -1 then GONE else (b, s.stay)) | none => tick (posT s τ t) := by
  obtain ⟨a, b, o⟩ := τ
  have h1 := g.st
  have h2 := g.s0
  have h3 := g.b
  change a + s.stay + 1 ≤ o at h1
  change 0 ≤ b ∧ _ at h3
  have hst : ∀ x : Int, x = 0 → (if s.stay - x > 0 then s.stay - x else 0) = s.stay := fun x hx => by
    subst hx
    split <;> omega
  unfold actT posT
  dsimp only
  by_cases e1 : t = a
  · rw [if_pos e1]
    subst e1
    dsimp only
    rw [if_neg (show ¬ t + 1 ≤ t by omega), if_pos (show t + 1 ≤ o by omega), if_neg (show ¬ b = -1 by omega), hst _ (by omega)]
  · rw [if_neg e1]
    by_cases e2 : t = o
    · rw [if_pos e2]
      subst e2
      dsimp only
      rw [if_neg (by omega), if_neg (by omega), if_pos rfl]
    · rw [if_neg e2]
      dsimp only
      by_cases c1 : t ≤ a
      · rw [if_pos (by omega), if_pos c1]
        rfl
      · by_cases c2 : t ≤ o
        · rw [if_neg (by omega), if_pos (by omega), if_neg c1, if_pos c2]
          unfold tick
          dsimp only
          rw [if_pos h3.1]
          congr 1
          split <;> split <;> split <;> omega
        · rw [if_neg (by omega), if_neg (by omega), if_neg c1, if_neg c2]
          rfl
theorem pos_set {ships : List Ship} (w : Wd h ships) (g : Good h s τ) : posT s τ t ∈ plSet := by
  have h2 := g.s0
  have h3 := g.b
  have hb := w.bn
  unfold posT
  split
  · decide
  · split
    · have e1 : τ.2.1 = 0 ∨ τ.2.1 = 1 := by omega
      have : ∃ x : Int, (if s.stay - (t - τ.1 - 1) > 0 then s.stay - (t - τ.1 - 1) else 0) = x ∧ (x = 0 ∨ x = 1 ∨ x = 2) := ⟨_, rfl, by split <;> omega⟩
      obtain ⟨x, hx, e2⟩ := this
      rw [hx]
      rcases e1 with e1 | e1 <;> rcases e2 with e2 | e2 | e2 <;> rw [e1, e2] <;> decide
    · decide
theorem pos_end (g : Good h s τ) (ht : t = h.last + 1) : posT s τ t = GONE := by
  have h1 := g.st
  have h2 := g.s0
  have h3 := g.la
  unfold posT
  rw [if_neg (by omega), if_neg (by omega)]
theorem pos_start (g : Good h s τ) (ht : t = 0) : posT s τ t = SEA := by
  have h1 := g.rd
  have h2 := g.r0
  unfold posT
  rw [if_pos (by omega)]
theorem act_row (g : Good h s τ) {st : Sta} {lat : Lat} {n : Nat} {x : Int} (e1 : st.1 = t) (hp : plAt st n = posT s τ t) (hk : ∀ t, isKept lat n t = true) (ha : actT τ t = some x) (hf : t = τ.1 → ¬ τ.2.1 ∈ st.2.map (·.1)) : x ∈ rowOf h st lat n s := by
  have h1 := g.st
  have h2 := g.s0
  have h3 := g.b
  unfold actT at ha
  rw [row_mem, e1]
  split at ha
  · rename_i e
    cases ha
    refine ⟨by rw [e]; exact g.d1, .inl ⟨?_, by rw [e]; exact g.rd, berths_mem.mpr ⟨h3, g.ln, hf e⟩⟩⟩
    rw [hp]
    unfold posT
    rw [if_pos (by omega)]
  · split at ha
    · rename_i e
      cases ha
      refine ⟨by rw [e]; exact g.d2, .inr ?_⟩
      have : posT s τ t = (τ.2.1, 0) := by
        unfold posT
        rw [if_neg (by omega), if_pos (by omega), if_neg (by omega)]
      rw [hp, this]
      exact ⟨h3.1, rfl, hk t, rfl⟩
    · cases ha
theorem pos_berth (hx : (posT s τ t).1 = b) (hb : 0 ≤ b) : b = τ.2.1 ∧ τ.1 < t ∧ t ≤ τ.2.2 := by
  unfold posT at hx
  split at hx
  · change (-1 : Int) = b at hx
    omega
  · split at hx
    · change τ.2.1 = b at hx
      omega
    · change (-2 : Int) = b at hx
      omega
end
theorem setLen1 (b : Int) : setLen [b] = 1 := rfl
theorem setLen2 {b c : Int} (h : b ≠ c) : setLen [b, c] = 2 := by
  unfold setLen
  have : firstMet (fun i => [b, c].getD i 0) [b, c].length = [b, c] := by
    unfold firstMet
    show List.foldl _ _ [b, c] = _
    rw [List.foldl_cons, List.foldl_cons, List.foldl_nil]
    simp [step_dedup, h]
  rw [this]
  rfl
theorem let1 {h : Harb} {ships : List Ship} {n : Int} {b : Int} (hp : 1 ≤ h.pilots) (ht : (shipAt ships n).tugs ≤ h.tugs) : isLet h ships [(n, b)] = true := by
  unfold isLet
  dsimp only
  rw [if_neg, decide_eq_true]
  · show (shipAt ships n).tugs + 0 ≤ _
    omega
  · rw [not_or]
    refine ⟨?_, by show ¬ h.pilots < 1; omega⟩
    by_cases c : 0 ≤ b
    · have e : ([(n, b)].filterMap fun p => if 0 ≤ p.2 then some p.2 else none) = [b] := by simp [c]
      rw [e, setLen1]
      simp
    · have e : ([(n, b)].filterMap fun p => if 0 ≤ p.2 then some p.2 else none) = [] := by simp [c]
      rw [e]
      simp [setLen, firstMet]
theorem let2 {h : Harb} {ships : List Ship} {b c : Int} (hp : 2 ≤ h.pilots) (ht : (shipAt ships 0).tugs + (shipAt ships 1).tugs ≤ h.tugs) (hd : 0 ≤ b → b ≠ c) : isLet h ships [(0, b), (1, c)] = true := by
  unfold isLet
  dsimp only
  rw [if_neg, decide_eq_true]
  · show (shipAt ships 0).tugs + ((shipAt ships 1).tugs + 0) ≤ _
    omega
  · rw [not_or]
    refine ⟨?_, by show ¬ h.pilots < 2; omega⟩
    by_cases k : 0 ≤ b
    · by_cases k2 : 0 ≤ c
      · have e : ([((0 : Int), b), (1, c)].filterMap fun p => if 0 ≤ p.2 then some p.2 else none) = [b, c] := by simp [k, k2]
        rw [e, setLen2 (hd k)]
        simp
      · have e : ([((0 : Int), b), (1, c)].filterMap fun p => if 0 ≤ p.2 then some p.2 else none) = [b] := by simp [k, k2]
        rw [e, setLen1]
        simp
    · by_cases k2 : 0 ≤ c
      · have e : ([((0 : Int), b), (1, c)].filterMap fun p => if 0 ≤ p.2 then some p.2 else none) = [c] := by simp [k, k2]
        rw [e, setLen1]
        simp
      · have e : ([((0 : Int), b), (1, c)].filterMap fun p => if 0 ≤ p.2 then some p.2 else none) = [] := by simp [k, k2]
        rw [e]
        simp [setLen, firstMet]
theorem kept_no {ships : List Ship} {n : Nat} (t : Int) : isKept (noPr ships) n t = true := by
  unfold isKept noPr
  by_cases hn : n < ships.length
  · rw [List.getD_eq_getElem?_getD, List.getElem?_map, List.getElem?_eq_getElem hn]
    rfl
  · rw [List.getD_eq_getElem?_getD, List.getElem?_map, List.getElem?_eq_none (by omega)]
    rfl
theorem plan_way1 {h : Harb} {s0 : Ship} (w : Wx h [s0]) {τ : Trip} (g : Good h s0 τ) : restOf h [s0] (beginOf [s0]) (noPr [s0]) ≠ none := by
  have hS : ∀ t, 0 ≤ t → t ≤ h.last + 1 → Stt h [s0] (t, [posT s0 τ t]) := fun t h0 h1 => ⟨rfl, fun p hp => by rw [List.mem_singleton.mp hp]; exact pos_set w.wd g, h0, h1⟩
  have hla := w.wd.la
  have z := rest_back (lat := noPr [s0]) w.wd (S := fun t => (t, [posT s0 τ t])) hS (by
    dsimp only
    rw [pos_end g rfl]
    decide) (fun t h0 h1 he => ?_) (h.last + 1).toNat 0 (Int.le_refl _) (by omega) (by omega)
  · rw [pos_start g rfl] at z
    exact z
  · dsimp only at he ⊢
    refine ⟨(match actT τ t with | some b => [((0 : Int), b)] | none => []), ?_, ?_⟩
    · unfold movesIn
      rw [if_neg (by dsimp only; rw [he]; simp; omega), List.mem_mergeSort]
      show _ ∈ moreOf h [s0] 0 (rowOf h (t, [posT s0 τ t]) (noPr [s0]) 0 s0) [[]]
      cases e : actT τ t with
      | none => exact more_keep (.head _)
      | some b =>
        refine more_add (m := []) (.head _) (act_row g rfl rfl (fun t => kept_no t) e fun e2 => ?_) (let1 w.pi g.tg)
        intro hm
        have hm := List.mem_singleton.mp hm
        have := pos_berth hm.symm g.b.1
        omega
    · have pn := pos_next (t := t) g
      unfold afterMoves
      rw [pn]
      cases e : actT τ t with
      | none => rfl
      | some b => rfl
theorem plan_way2 {h : Harb} {s0 s1 : Ship} (w : Wx h [s0, s1]) {τ ρ : Trip} (g : Good h s0 τ) (k : Good h s1 ρ) (hb : besideB h [s0, s1] τ ρ = true) : restOf h [s0, s1] (beginOf [s0, s1]) (noPr [s0, s1]) ≠ none := by
  obtain ⟨b1, b2⟩ := beside_iff.mp hb
  have b2 : (¬ (τ.1 = ρ.1 ∨ τ.1 = ρ.2.2) ∧ ¬ (τ.2.2 = ρ.1 ∨ τ.2.2 = ρ.2.2)) ∨ (1 < h.pilots ∧ s0.tugs + s1.tugs ≤ h.tugs) := b2
  have hS : ∀ t, 0 ≤ t → t ≤ h.last + 1 → Stt h [s0, s1] (t, [posT s0 τ t, posT s1 ρ t]) := fun t h0 h1 => ⟨rfl, fun p hp => by
    rcases List.mem_cons.mp hp with rfl | hp
    · exact pos_set w.wd g
    · rw [List.mem_singleton.mp hp]
      exact pos_set w.wd k, h0, h1⟩
  have hla := w.wd.la
  have g1 := g.st
  have g2 := g.s0
  have k1 := k.st
  have k2 := k.s0
  have z := rest_back (lat := noPr [s0, s1]) w.wd (S := fun t => (t, [posT s0 τ t, posT s1 ρ t])) hS (by
    dsimp only
    rw [pos_end g rfl, pos_end k rfl]
    decide) (fun t h0 h1 he => ?_) (h.last + 1).toNat 0 (Int.le_refl _) (by omega) (by omega)
  · rw [pos_start g rfl, pos_start k rfl] at z
    exact z
  · dsimp only at he ⊢
    have m0 : ∀ b, actT τ t = some b → b ∈ rowOf h (t, [posT s0 τ t, posT s1 ρ t]) (noPr [s0, s1]) 0 s0 := fun b e => by
      refine act_row g rfl rfl (fun t => kept_no t) e fun e2 hm => ?_
      rcases List.mem_cons.mp hm with hm | hm
      · have := pos_berth hm.symm g.b.1
        omega
      · have hm := List.mem_singleton.mp hm
        have := pos_berth hm.symm g.b.1
        exact b1 ⟨this.1, by omega, by omega⟩
    have m1 : ∀ b, actT ρ t = some b → b ∈ rowOf h (t, [posT s0 τ t, posT s1 ρ t]) (noPr [s0, s1]) 1 s1 := fun b e => by
      refine act_row k rfl rfl (fun t => kept_no t) e fun e2 hm => ?_
      rcases List.mem_cons.mp hm with hm | hm
      · have := pos_berth hm.symm k.b.1
        exact b1 ⟨this.1.symm, by omega, by omega⟩
      · have hm := List.mem_singleton.mp hm
        have := pos_berth hm.symm k.b.1
        omega
    have both : ∀ b c, actT τ t = some b → actT ρ t = some c → isLet h [s0, s1] [(0, b), (1, c)] = true := fun b c e f => by
      unfold actT at e f
      have hm : 1 < h.pilots ∧ s0.tugs + s1.tugs ≤ h.tugs := by
        refine b2.resolve_left fun y => ?_
        split at e
        · split at f
          · omega
          · split at f
            · omega
            · cases f
        · split at e
          · split at f
            · omega
            · split at f
              · omega
              · cases f
          · cases e
      refine let2 (by omega) hm.2 fun hb he => ?_
      subst he
      split at e
      · split at f
        · cases e
          exact b1 ⟨(Option.some.inj f).symm, by omega, by omega⟩
        · split at f
          · cases f
            omega
          · cases f
      · split at e
        · cases e
          omega
        · cases e
    refine ⟨(match actT τ t with | some b => [((0 : Int), b)] | none => []) ++ (match actT ρ t with | some b => [((1 : Int), b)] | none => []), ?_, ?_⟩
    · unfold movesIn
      rw [if_neg (by dsimp only; rw [he]; simp; omega), List.mem_mergeSort]
      show _ ∈ moreOf h [s0, s1] 1 (rowOf h (t, [posT s0 τ t, posT s1 ρ t]) (noPr [s0, s1]) 1 s1) (moreOf h [s0, s1] 0 (rowOf h (t, [posT s0 τ t, posT s1 ρ t]) (noPr [s0, s1]) 0 s0) [[]])
      have f0 : (match actT τ t with | some b => [((0 : Int), b)] | none => []) ∈ moreOf h [s0, s1] 0 (rowOf h (t, [posT s0 τ t, posT s1 ρ t]) (noPr [s0, s1]) 0 s0) [[]] := by
        cases e : actT τ t with
        | none => exact more_keep (.head _)
        | some b => exact more_add (m := []) (.head _) (m0 b e) (let1 w.pi g.tg)
      cases f : actT ρ t with
      | none =>
        rw [List.append_nil]
        exact more_keep f0
      | some c =>
        refine more_add f0 (m1 c f) ?_
        cases e : actT τ t with
        | none => exact let1 w.pi k.tg
        | some b => exact both b c e f
    · have pn := pos_next (t := t) g
      have pk := pos_next (t := t) k
      unfold afterMoves
      dsimp only
      rw [pn, pk]
      cases e : actT τ t with
      | none =>
        cases f : actT ρ t with
        | none => rfl
        | some c => rfl
      | some b =>
        cases f : actT ρ t with
        | none => rfl
        | some c => rfl
theorem plan_way {h : Harb} {ships : List Ship} (w : Wx h ships) (h12 : ships.length = 1 ∨ ships.length = 2) (hp : hasPlanB h ships = true) : restOf h ships (beginOf ships) (noPr ships) ≠ none := by
  unfold hasPlanB at hp
  rcases h12 with h1 | h2
  · rw [if_pos h1] at hp
    obtain ⟨τ, hm⟩ := List.exists_mem_of_length_pos (of_decide_eq_true hp)
    have g := good_of w (n := 0) (by omega) hm
    match ships, h1 with
    | [s0], _ => exact plan_way1 w g
  · rw [if_neg (by omega), List.any_eq_true] at hp
    obtain ⟨τ, hm, hp⟩ := hp
    rw [List.any_eq_true] at hp
    obtain ⟨ρ, hm2, hb⟩ := hp
    have g := good_of w (n := 0) (by omega) hm
    have k := good_of w (n := 1) (by omega) hm2
    match ships, h2 with
    | [s0, s1], _ => exact plan_way2 w g k hb
/-- there is a way exactly if there is a plan -/
theorem way_iff {h : Harb} {ships : List Ship} (w : Wx h ships) (h12 : ships.length = 1 ∨ ships.length = 2) (t : Stt h ships (beginOf ships)) : hasWay h ships (beginOf ships) (noPr ships) = hasPlanB h ships := by
  unfold hasWay
  cases e : hasPlanB h ships with
  | true =>
    have := plan_way w h12 e
    cases q : restOf h ships (beginOf ships) (noPr ships) with
    | none => exact absurd q this
    | some r => rfl
  | false =>
    cases q : restOf h ships (beginOf ships) (noPr ships) with
    | none => rfl
    | some r =>
      have := way_plan w t h12 (by rw [q]; exact fun z => by cases z)
      rw [e] at this
      cases this
end TW
/-! WM6: the console goes on: the way is told piece by piece. -/
namespace TW
def tLt (a b : Trip) : Prop := a.1 < b.1 ∨ (a.1 = b.1 ∧ a.2.1 < b.2.1)
/-- the way ascends, from the hour on; its ships are ships -/
structure Asc (ships : List Ship) (t : Int) (W : List Trip) : Prop where
  pw : W.Pairwise tLt
  fr : ∀ e ∈ W, t ≤ e.1
  sh : ∀ e ∈ W, 0 ≤ e.2.1 ∧ e.2.1 < (ships.length : Int)
theorem way_asc {h : Harb} {ships : List Ship} {lat : Lat} (w : Wd h ships) {s : Sta} (t : Stt h ships s) (hr : restOf h ships s lat ≠ none) : Asc ships s.1 (wayOn h ships s lat) := by
  refine way_ind (J := fun _ => True) (P := fun s W => Asc ships s.1 W) w (fun s _ _ _ => ⟨.nil, fun e he => (nomatch he), fun e he => (nomatch he)⟩) (fun _ _ _ _ _ => trivial) ?_ _ s (Nat.le_refl _) t trivial hr
  intro s m t _ z mo t' _ _ ih
  obtain ⟨i1, i2, i3⟩ := ih
  have hh : (afterMoves ships s m).1 = s.1 + 1 := rfl
  rw [hh] at i2
  have e1 : ∀ e ∈ m.map fun p => (s.1, p.1, p.2), e.1 = s.1 ∧ 0 ≤ e.2.1 ∧ e.2.1 < (ships.length : Int) := fun e he => by
    obtain ⟨p, hp, rfl⟩ := List.mem_map.mp he
    exact ⟨rfl, mo.2 p hp⟩
  refine ⟨?_, fun e he => ?_, fun e he => ?_⟩
  · rw [List.pairwise_append]
    refine ⟨?_, i1, fun a ha b hb => .inl ?_⟩
    · rw [List.pairwise_map]
      exact z.asc.imp fun h => .inr ⟨rfl, h⟩
    · have := (e1 a ha).1
      have := i2 b hb
      omega
  · rcases List.mem_append.mp he with he | he
    · have := (e1 e he).1
      omega
    · have := i2 e he
      omega
  · rcases List.mem_append.mp he with he | he
    · exact (e1 e he).2
    · exact i3 e he
theorem moves_app (a b : List Trip) (t : Int) : movesAt (a ++ b) t = movesAt a t ++ movesAt b t := List.filterMap_append
theorem moves_none {W : List Trip} {t : Int} (h : ∀ e ∈ W, e.1 ≠ t) : movesAt W t = [] := by
  unfold movesAt
  rw [List.filterMap_eq_nil_iff]
  intro e he
  rw [if_neg (h e he)]
theorem moves_hour (m : Mv) (t : Int) : movesAt (m.map fun p => (t, p.1, p.2)) t = m := by
  unfold movesAt
  rw [List.filterMap_map]
  have : ((fun p : Trip => if p.1 = t then some (p.2.1, p.2.2) else none) ∘ fun p : Int × Int => (t, p.1, p.2)) = some := by
    funext p
    simp
  rw [this, List.filterMap_some]
def fromT (W : List Trip) (t : Int) : List Trip := W.filter fun e => decide (t ≤ e.1)
theorem moves_from {W : List Trip} {t u : Int} (h : t ≤ u) : movesAt (fromT W t) u = movesAt W u := by
  unfold movesAt fromT
  rw [List.filterMap_filter]
  congr 1
  funext e
  by_cases c : e.1 = u
  · have : t ≤ e.1 := by omega
    simp [c, h]
  · simp [c]
theorem from_from {W : List Trip} {t u : Int} (h : t ≤ u) : fromT (fromT W t) u = fromT W u := by
  unfold fromT
  rw [List.filter_filter]
  congr 1
  funext e
  by_cases c : u ≤ e.1
  · have : t ≤ e.1 := by omega
    simp [c, this]
  · simp [c]
/-- where the console is at the hour t -/
structure AtP (h : Harb) (ships : List Ship) (pr : Lat) (W : List Trip) (s : Sta) (t : Int) : Prop where
  hr : s.1 = t
  st : Stt h ships s
  rs : restOf h ships s pr ≠ none
  wy : wayOn h ships s pr = fromT W t
theorem AtP.mv {h : Harb} {ships : List Ship} {pr : Lat} {W : List Trip} {s : Sta} {t : Int} (w : Wd h ships) (a : AtP h ships pr W s t) (he : isEnd s.2 = false) : movesAt W t = hdOf h ships pr s ∧ MvOk ships (hdOf h ships pr s) := by
  obtain ⟨h1, h2, h3, h4⟩ := hd_ok w a.st he a.rs
  refine ⟨?_, h2⟩
  have hs := way_step (lat := pr) a.st he
  have asc := way_asc w h3 h4
  rw [← moves_from (W := W) (t := t) (Int.le_refl _), ← a.wy, hs, moves_app, a.hr, moves_hour, moves_none, List.append_nil]
  intro e hm
  have := asc.fr e hm
  have hh : (afterMoves ships s (hdOf h ships pr s)).1 = s.1 + 1 := rfl
  have := a.hr
  omega
theorem AtP.step {h : Harb} {ships : List Ship} {pr : Lat} {W : List Trip} {s : Sta} {t : Int} (w : Wd h ships) (a : AtP h ships pr W s t) (hl : t ≤ h.last) : AtP h ships pr W (stepGo ships W s) (t + 1) := by
  have ahr := a.hr
  cases e : isEnd s.2 with
  | true =>
    have es : stepGo ships W s = (s.1 + 1, s.2) := by
      unfold stepGo
      rw [if_pos e]
    rw [es]
    have st' : Stt h ships (s.1 + 1, s.2) := ⟨a.st.pl, a.st.ps, by have := a.st.h0; show 0 ≤ s.1 + 1; omega, by show s.1 + 1 ≤ _; omega⟩
    refine ⟨by show s.1 + 1 = _; omega, st', ?_, ?_⟩
    · rw [restOf_eq w st', if_pos e]
      exact fun z => by cases z
    · rw [way_end (s := (s.1 + 1, s.2)) e, ← from_from (W := W) (t := t) (u := t + 1) (by omega), ← a.wy, way_end e]
      rfl
  | false =>
    obtain ⟨em, _⟩ := a.mv w e
    obtain ⟨h1, h2, h3, h4⟩ := hd_ok w a.st e a.rs
    have es : stepGo ships W s = afterMoves ships s (hdOf h ships pr s) := by
      unfold stepGo
      rw [e, if_neg (by simp), ahr, em]
    rw [es]
    have asc := way_asc w h3 h4
    have hh : (afterMoves ships s (hdOf h ships pr s)).1 = s.1 + 1 := rfl
    refine ⟨by rw [hh]; omega, h3, h4, ?_⟩
    rw [← from_from (W := W) (t := t) (u := t + 1) (by omega), ← a.wy, way_step (lat := pr) a.st e]
    unfold fromT
    rw [List.filter_append, List.filter_eq_nil_iff.mpr, List.nil_append, List.filter_eq_self.mpr]
    · intro x hx
      have := asc.fr x hx
      exact decide_eq_true (by omega)
    · intro x hx
      obtain ⟨p, _, rfl⟩ := List.mem_map.mp hx
      simp
      omega
theorem AtP.iter {h : Harb} {ships : List Ship} {pr : Lat} {W : List Trip} {s : Sta} {t : Int} (w : Wd h ships) (a : AtP h ships pr W s t) : ∀ k : Nat, t + k ≤ h.last + 1 → AtP h ships pr W (goIter ships W s k) (t + k)
  | 0, _ => by
    show AtP h ships pr W s (t + 0)
    rw [Int.add_zero]
    exact a
  | k + 1, hk => by
    have e : t + ((k + 1 : Nat) : Int) = t + k + 1 := by omega
    rw [e]
    exact (a.iter w k (by omega)).step w (by omega)
theorem iter_from {ships : List Ship} {W : List Trip} {s : Sta} {t : Int} (h : t ≤ s.1) : ∀ k, goIter ships (fromT W t) s k = goIter ships W s k
  | 0 => rfl
  | k + 1 => by
    show stepGo ships (fromT W t) (goIter ships (fromT W t) s k) = stepGo ships W (goIter ships W s k)
    rw [iter_from h k]
    unfold stepGo
    rw [moves_from (by rw [goIter_hour]; omega)]
theorem iter_add {ships : List Ship} {W : List Trip} {s : Sta} (j : Nat) : ∀ k, goIter ships W (goIter ships W s j) k = goIter ships W s (j + k)
  | 0 => rfl
  | k + 1 => congrArg (stepGo ships W) (iter_add j k)
/-- the console at the beginning, with promises -/
def conP (h : Harb) (ships : List Ship) (pr : Lat) : StD := mkSt (h, ships, beginOf ships, [], pr)
/-- all that is to be known of it -/
structure ConOk (h : Harb) (ships : List Ship) (pr : Lat) : Prop where
  wx : Wx h ships
  n12 : ships.length = 1 ∨ ships.length = 2
  pl : pr.length = ships.length
  rs : restOf h ships (beginOf ships) pr ≠ none
section
variable {h : Harb} {ships : List Ship} {pr : Lat}
abbrev wayP (h : Harb) (ships : List Ship) (pr : Lat) : List Trip := wayOn h ships (beginOf ships) pr
theorem ConOk.asc (c : ConOk h ships pr) : Asc ships 0 (wayP h ships pr) := way_asc (s := beginOf ships) c.wx.wd (begin_stt c.wx.wd) c.rs
theorem ConOk.at0 (c : ConOk h ships pr) : AtP h ships pr (wayP h ships pr) (beginOf ships) 0 := ⟨rfl, begin_stt c.wx.wd, c.rs, by
  unfold fromT
  rw [List.filter_eq_self.mpr]
  exact fun e he => decide_eq_true (c.asc.fr e he)⟩
/-- the place at the hour t -/
def hereP (h : Harb) (ships : List Ship) (pr : Lat) (t : Int) : Sta := goIter ships (wayP h ships pr) (beginOf ships) t.toNat
theorem ConOk.at (c : ConOk h ships pr) {t : Int} (h0 : 0 ≤ t) (h1 : t ≤ h.last + 1) : AtP h ships pr (wayP h ships pr) (hereP h ships pr t) t := by
  have z := c.at0.iter c.wx.wd t.toNat (by omega)
  have e : (0 : Int) + (t.toNat : Int) = t := by omega
  rw [e] at z
  exact z
/-- the console at the hour t -/
def conAt (h : Harb) (ships : List Ship) (pr : Lat) (t : Int) : StD := ⟨h, ships, hereP h ships pr t, freshOf (wayP h ships pr) t, pr, fromT (wayP h ships pr) t⟩
theorem ConOk.start (c : ConOk h ships pr) : conP h ships pr = conAt h ships pr 0 := by
  have z := (c.at (t := 0) (Int.le_refl _) (by have := c.wx.wd.la; omega)).wy
  unfold conP mkSt conAt
  have e1 : hereP h ships pr 0 = beginOf ships := rfl
  have e2 : freshOf (wayP h ships pr) 0 = [] := by
    unfold freshOf
    rw [List.filter_eq_nil_iff]
    intro e he
    have := c.asc.fr e he
    simp
    omega
  rw [e1] at z
  dsimp only
  rw [e1, e2, z]
theorem fresh_from {W : List Trip} {t u : Int} : freshOf W t ++ freshOf (fromT W t) u = freshOf W t ++ (fromT (freshOf W u) t) := by
  congr 1
  unfold freshOf fromT
  rw [List.filter_filter, List.filter_filter]
  congr 1
  funext e
  exact Bool.and_comm _ _
theorem split_at {W : List Trip} (hp : W.Pairwise tLt) (t : Int) : freshOf W t ++ fromT W t = W := by
  induction W with
  | nil => rfl
  | cons e W ih =>
    rw [List.pairwise_cons] at hp
    have ih := ih hp.2
    unfold freshOf fromT at ih ⊢
    by_cases c : e.1 < t
    · rw [List.filter_cons_of_pos (by simpa using c), List.filter_cons_of_neg (by simpa using c), List.cons_append, ih]
    · have hall : ∀ x ∈ W, t ≤ x.1 := fun x hx => by
        rcases hp.1 x hx with z | z
        · omega
        · omega
      have hn : W.filter (fun p => decide (p.1 < t)) = [] := by
        rw [List.filter_eq_nil_iff]
        intro x hx
        have := hall x hx
        simp
        omega
      have ha : W.filter (fun e => decide (t ≤ e.1)) = W := by
        rw [List.filter_eq_self]
        exact fun x hx => decide_eq_true (hall x hx)
      rw [List.filter_cons_of_neg (by simpa using c), List.filter_cons_of_pos (by simp; omega), hn, ha]
      rfl
theorem fresh_pw {W : List Trip} (hp : W.Pairwise tLt) (u : Int) : (freshOf W u).Pairwise tLt := List.Pairwise.filter _ hp
theorem fresh_fresh {W : List Trip} {t u : Int} (h : t ≤ u) : freshOf (freshOf W u) t = freshOf W t := by
  unfold freshOf
  rw [List.filter_filter]
  congr 1
  funext e
  by_cases c : e.1 < t
  · have : e.1 < u := by omega
    simp [c, this]
  · simp [c]
theorem told_add {W : List Trip} (hp : W.Pairwise tLt) {t u : Int} (h : t ≤ u) : freshOf W t ++ freshOf (fromT W t) u = freshOf W u := by
  rw [fresh_from]
  have z := split_at (fresh_pw hp u) t
  rw [fresh_fresh h] at z
  exact z
theorem ConOk.go (c : ConOk h ships pr) {t u : Int} (h0 : 0 ≤ t) (h1 : t ≤ u) (h2 : u ≤ h.last + 1) : goSt (conAt h ships pr t) u = conAt h ships pr u := by
  have a := c.at (t := t) h0 (by omega)
  have au := c.at (t := u) (by omega) h2
  have e1 : goIter ships (fromT (wayP h ships pr) t) (hereP h ships pr t) (u - (hereP h ships pr t).1).toNat = hereP h ships pr u := by
    rw [iter_from (by rw [a.hr]; exact Int.le_refl _), a.hr]
    unfold hereP
    rw [iter_add]
    congr 1
    omega
  unfold goSt mkSt
  dsimp only
  show StD.mk h ships (goIter ships (fromT (wayP h ships pr) t) (hereP h ships pr t) (u - (hereP h ships pr t).1).toNat) (freshOf (wayP h ships pr) t ++ freshOf (fromT (wayP h ships pr) t) u) pr
    (wayOn h ships (goIter ships (fromT (wayP h ships pr) t) (hereP h ships pr t) (u - (hereP h ships pr t).1).toNat) pr) = _
  rw [e1, told_add c.asc.pw h1, au.wy]
  rfl
end
end TW
/-! WM7: what go, plan and promise ask of the console; the plan's moves are the way. -/
namespace TW
section
variable {h : Harb} {ships : List Ship} {pr : Lat}
theorem filter_split {W : List Trip} (h : ∀ e ∈ W, e.2.1 = 0 ∨ e.2.1 = 1) : List.Perm (W.filter (fun e => decide (e.2.1 = 0)) ++ W.filter (fun e => decide (e.2.1 = 1))) W := by
  have e : W.filter (fun e => decide (e.2.1 = 1)) = W.filter (fun e => !decide (e.2.1 = 0)) := by
    refine List.filter_congr fun x hx => ?_
    rcases h x hx with z | z <;> simp [z]
  rw [e]
  exact List.filter_append_perm _ _
theorem rows_filter (W : List Trip) (n : Nat) : (rowsFor W n).map (fun p => (p.1, (n : Int), p.2)) = W.filter fun e => decide (e.2.1 = (n : Int)) := by
  unfold rowsFor
  induction W with
  | nil => rfl
  | cons e W ih =>
    rw [List.filterMap_cons]
    by_cases c : e.2.1 = (n : Int)
    · rw [if_pos c, List.filter_cons_of_pos (by simpa using c)]
      dsimp only
      rw [List.map_cons, ih, ← c]
    · rw [if_neg c, List.filter_cons_of_neg (by simpa using c)]
      exact ih
/-- the two rows of each ship -/
theorem ConOk.rows (c : ConOk h ships pr) {n : Nat} (hn : n < ships.length) : ∃ a b o, rowsFor (wayP h ships pr) n = [(a, b), (o, -1)] ∧ planAt (planOf ships (wayP h ships pr)) n = (a, b, o) := by
  obtain ⟨a, b, o, hr, _⟩ := way_tuple c.wx (begin_stt c.wx.wd) c.rs hn
  refine ⟨a, b, o, hr, ?_⟩
  unfold planAt planOf
  rw [List.getD_eq_getElem?_getD, List.getElem?_map, List.getElem?_range hn]
  show ((((rowsFor (wayP h ships pr) n).getD 0 (0, 0)).1, ((rowsFor (wayP h ships pr) n).getD 0 (0, 0)).2, ((rowsFor (wayP h ships pr) n).getD 1 (0, 0)).1) : Trip) = _
  rw [hr]
  rfl
theorem ConOk.perm (c : ConOk h ships pr) : List.Perm (rowsN (planOf ships (wayP h ships pr)) (planOf ships (wayP h ships pr)).length) (wayP h ships pr) := by
  have pl : (planOf ships (wayP h ships pr)).length = ships.length := by
    unfold planOf
    rw [List.length_map, List.length_range]
  have sh := c.asc.sh
  have row : ∀ n, n < ships.length → [((planAt (planOf ships (wayP h ships pr)) n).1, (n : Int), (planAt (planOf ships (wayP h ships pr)) n).2.1), ((planAt (planOf ships (wayP h ships pr)) n).2.2, (n : Int), (-1 : Int))] = (wayP h ships pr).filter fun e => decide (e.2.1 = (n : Int)) := fun n hn => by
    obtain ⟨a, b, o, h1, h2⟩ := c.rows hn
    rw [← rows_filter, h1, h2]
    rfl
  rw [pl]
  unfold rowsN
  rcases c.n12 with h1 | h2
  · rw [h1]
    have := row 0 (by omega)
    show List.Perm ([_, _] ++ []) _
    rw [List.append_nil]
    refine .of_eq (this.trans ?_)
    rw [List.filter_eq_self]
    intro e he
    have := sh e he
    exact decide_eq_true (by omega)
  · rw [h2]
    have r0 := row 0 (by omega)
    have r1 := row 1 (by omega)
    show List.Perm ([_, _] ++ ([_, _] ++ [])) _
    rw [List.append_nil]
    refine .trans (.of_eq (congr (congrArg (· ++ ·) r0) r1)) (filter_split fun e he => ?_)
    have := sh e he
    omega
theorem ConOk.len (c : ConOk h ships pr) : (wayP h ships pr).length ≤ 4 := by
  rw [← c.perm.length_eq]
  have pl : (planOf ships (wayP h ships pr)).length = ships.length := by
    unfold planOf
    rw [List.length_map, List.length_range]
  rw [pl]
  rcases c.n12 with h1 | h2
  · rw [h1]
    exact Nat.le_of_ble_eq_true rfl
  · rw [h2]
    exact Nat.le_of_ble_eq_true rfl
theorem tri_lt (p q : Trip) : ([p.1, p.2.1, p.2.2] < [q.1, q.2.1, q.2.2]) ↔ (p.1 < q.1 ∨ (p.1 = q.1 ∧ (p.2.1 < q.2.1 ∨ (p.2.1 = q.2.1 ∧ p.2.2 < q.2.2)))) := by
  simp only [List.cons_lt_cons_iff, List.not_lt_nil, and_false, or_false]
theorem le_anti {p q : Trip} (h1 : PySem.W.dataLe false eTrip p q = true) (h2 : PySem.W.dataLe false eTrip q p = true) : p = q := by
  rw [leT_eq] at h1 h2
  simp only [Bool.not_eq_true', decide_eq_false_iff_not] at h1 h2
  rw [tri_lt] at h1 h2
  obtain ⟨a, b, c⟩ := p
  obtain ⟨a', b', c'⟩ := q
  dsimp only at h1 h2
  have e1 : a = a' := by omega
  have e2 : b = b' := by omega
  have e3 : c = c' := by omega
  rw [e1, e2, e3]
theorem le_of_tLt {p q : Trip} (h : tLt p q) : PySem.W.dataLe false eTrip p q = true := by
  rw [leT_eq]
  simp only [Bool.not_eq_true', decide_eq_false_iff_not]
  rw [tri_lt]
  unfold tLt at h
  omega
theorem le_trans' (a b c : Trip) (h1 : PySem.W.dataLe false eTrip a b = true) (h2 : PySem.W.dataLe false eTrip b c = true) : PySem.W.dataLe false eTrip a c = true := by
  rw [leT_eq] at h1 h2 ⊢
  simp only [Bool.not_eq_true', decide_eq_false_iff_not] at h1 h2 ⊢
  rw [tri_lt] at h1 h2 ⊢
  omega
theorem le_total' (a b : Trip) : (PySem.W.dataLe false eTrip a b || PySem.W.dataLe false eTrip b a) = true := by
  rw [leT_eq, leT_eq, Bool.or_eq_true]
  simp only [Bool.not_eq_true', decide_eq_false_iff_not]
  rw [tri_lt, tri_lt]
  omega
/-- the moves of the plan ahead of the hour are what is told -/
theorem ConOk.moves (c : ConOk h ships pr) (t : Int) : movesOf (planOf ships (wayP h ships pr)) t = freshOf (wayP h ships pr) t := by
  unfold movesOf freshOf
  congr 1
  refine List.Perm.eq_of_pairwise (le := fun a b => PySem.W.dataLe false eTrip a b = true) (fun a b _ _ h1 h2 => le_anti h1 h2) (List.pairwise_mergeSort le_trans' le_total' _) (c.asc.pw.imp fun z => le_of_tLt z) ((List.mergeSort_perm _ _).trans c.perm)
theorem ConOk.all (c : ConOk h ships pr) (t : Int) : (conAt h ships pr t).done ++ (conAt h ships pr t).way = wayP h ships pr := split_at c.asc.pw t
theorem ConOk.planOk (c : ConOk h ships pr) (t : Int) : PlanOk (conAt h ships pr t) := by
  refine ⟨c.wx.wd.sn, ?_, fun i hi => ?_, c.wx.wd.sm⟩
  · have z := congrArg List.length (c.all t)
    rw [List.length_append] at z
    have := c.len
    omega
  · rw [c.all t]
    obtain ⟨a, b, o, h1, _⟩ := c.rows (n := i) hi
    rw [h1]
    rfl
theorem ConOk.goOk (c : ConOk h ships pr) {t u : Int} (h0 : 0 ≤ t) (h1 : t ≤ u) (h2 : u ≤ h.last + 1) : GoOk (conAt h ships pr t) u := by
  have a := c.at (t := t) h0 (by omega)
  have au := c.at (t := u) (by omega) h2
  have ei : ∀ k : Nat, goIter ships (fromT (wayP h ships pr) t) (hereP h ships pr t) k = goIter ships (wayP h ships pr) (beginOf ships) (t.toNat + k) := fun k => by
    rw [iter_from (by rw [a.hr]; exact Int.le_refl _)]
    unfold hereP
    rw [iter_add]
  have ek : ∀ k : Nat, k ≤ (u - t).toNat → AtP h ships pr (wayP h ships pr) (goIter ships (fromT (wayP h ships pr) t) (hereP h ships pr t) k) (t + k) := fun k hk => by
    rw [ei]
    have z := c.at (t := t + k) (by omega) (by omega)
    unfold hereP at z
    have e : (t + (k : Int)).toNat = t.toNat + k := by omega
    rw [e] at z
    exact z
  have el := congrArg List.length (c.all t)
  rw [List.length_append] at el
  have hlen := c.len
  have ahr : (conAt h ships pr t).here.1 = t := a.hr
  refine ⟨c.wx.wd, c.pl, ?_, fun k hk => ?_, fun k hk he => ?_, by omega, by omega, ?_⟩
  · rw [ahr]
    unfold inB
    simp only [Bool.and_eq_true, decide_eq_true_eq]
    exact ⟨h1, h2⟩
  · rw [ahr] at hk
    exact (ek k hk).st
  · rw [ahr] at hk
    have z := ek k (by omega)
    have := z.mv c.wx.wd he
    have hz := z.hr
    show MvOk ships (movesAt (fromT (wayP h ships pr) t) (goIter ships (fromT (wayP h ships pr) t) (hereP h ships pr t) k).1)
    rw [hz, moves_from (by omega), this.1]
    exact this.2
  · rw [ahr]
    have z := (ek (u - t).toNat (Nat.le_refl _)).rs
    show (restOf h ships (goIter ships (fromT (wayP h ships pr) t) (hereP h ships pr t) (u - t).toNat) pr).isSome = true
    cases q : restOf h ships (goIter ships (fromT (wayP h ships pr) t) (hereP h ships pr t) (u - t).toNat) pr with
    | none => exact absurd q z
    | some r => rfl
end
/-! ### promises -/
def putPr (pr : Lat) (ship : Nat) (hour : Int) : Lat := pr.zipIdx.map fun p => if (p.2 : Int) = (ship : Int) then some hour else p.1
theorem put_len (pr : Lat) (ship : Nat) (hour : Int) : (putPr pr ship hour).length = pr.length := by
  unfold putPr
  rw [List.length_map, List.length_zipIdx]
theorem put_at {pr : Lat} {ship : Nat} {hour : Int} {n : Nat} (hn : n < pr.length) (hne : n ≠ ship) : (putPr pr ship hour)[n]? = pr[n]? := by
  unfold putPr
  rw [List.getElem?_map, List.getElem?_zipIdx, List.getElem?_eq_getElem hn]
  have : ¬ ((0 + n : Nat) : Int) = (ship : Int) := by omega
  simp only [Option.map_some, this, if_false]
theorem others_mem {pr : Lat} {ship : Int} {x : Int} : x ∈ othersOf pr ship ↔ ∃ n : Nat, x = (n : Int) ∧ n < pr.length ∧ (∃ t, pr[n]? = some (some t)) ∧ x ≠ ship := by
  unfold othersOf
  rw [List.mem_filterMap]
  constructor
  · rintro ⟨⟨v, n⟩, hm, hx⟩
    have hz := List.mem_zipIdx_iff_getElem?.mp hm
    split at hx
    · rename_i hc
      cases hx
      obtain ⟨t, ht⟩ := Option.isSome_iff_exists.mp hc.1
      dsimp only at ht hz
      refine ⟨n, rfl, (List.getElem?_eq_some_iff.mp hz).1, ⟨t, by rw [hz, ht]⟩, hc.2⟩
    · cases hx
  · rintro ⟨n, rfl, hn, ⟨t, ht⟩, hne⟩
    refine ⟨(some t, n), List.mem_zipIdx_iff_getElem?.mpr ht, ?_⟩
    rw [if_pos ⟨rfl, hne⟩]
theorem kept_all (pr : Lat) (ship : Nat) : keptAlone pr (othersOf pr (ship : Int) ++ [(ship : Int)]) = pr := by
  unfold keptAlone
  refine List.ext_getElem? fun i => ?_
  rw [List.getElem?_map, List.getElem?_zipIdx]
  cases q : pr[i]? with
  | none => rfl
  | some v =>
    simp only [Option.map_some, Nat.zero_add]
    split
    · rfl
    · rename_i hc
      cases v with
      | none => rfl
      | some t =>
        exfalso
        apply hc
        rw [List.mem_append]
        by_cases e : (i : Int) = (ship : Int)
        · right
          rw [e]
          exact .head _
        · left
          exact others_mem.mpr ⟨i, rfl, (List.getElem?_eq_some_iff.mp q).1, ⟨t, q⟩, e⟩
theorem others_len {pr : Lat} {ship : Nat} (h12 : pr.length = 1 ∨ pr.length = 2) (hs : ship < pr.length) : (othersOf pr (ship : Int)).length ≤ 1 := by
  unfold othersOf
  rcases h12 with h1 | h2
  · match pr, h1 with
    | [v], _ =>
      refine Nat.le_trans (List.length_filterMap_le _ _) (Nat.le_refl _)
  · match pr, h2 with
    | [v, u], _ =>
      have : ship = 0 ∨ ship = 1 := by
        change ship < 2 at hs
        omega
      rcases this with rfl | rfl
      · show (List.filterMap _ [(v, 0), (u, 1)]).length ≤ 1
        rw [List.filterMap_cons_none (by simp)]
        exact Nat.le_trans (List.length_filterMap_le _ _) (Nat.le_refl _)
      · show (List.filterMap _ ([(v, 0)] ++ [(u, 1)])).length ≤ 1
        rw [List.filterMap_append]
        have : List.filterMap (fun p : Option Int × Nat => if p.1.isSome = true ∧ ¬ (p.2 : Int) = ((1 : Nat) : Int) then some (p.2 : Int) else none) [(u, 1)] = [] := by simp
        rw [this, List.append_nil]
        exact Nat.le_trans (List.length_filterMap_le _ _) (Nat.le_refl _)
theorem clash_no {h : Harb} {ships : List Ship} {st : Sta} {pr : Lat} {ship : Nat} (e : clashOf h ships st pr (ship : Int) = none) : hasWay h ships st pr = true := by
  unfold clashOf at e
  rw [Option.map_eq_none_iff, List.find?_eq_none] at e
  have z := e (othersOf pr (ship : Int)).length (List.mem_range.mpr (Nat.lt_succ_self _))
  rw [List.take_length, kept_all] at z
  simpa using z
theorem clash_yes {h : Harb} {ships : List Ship} {st : Sta} {pr : Lat} {ship : Nat} {l : List Int} (e : clashOf h ships st pr (ship : Int) = some l) : l.length ≤ (othersOf pr (ship : Int)).length ∧ ∀ x ∈ l, x ∈ othersOf pr (ship : Int) := by
  unfold clashOf at e
  obtain ⟨n, _, rfl⟩ := Option.map_eq_some_iff.mp e
  exact ⟨List.length_take_le' _ _, fun x hx => List.mem_of_mem_take hx⟩
section
variable {h : Harb} {ships : List Ship} {pr : Lat}
theorem conP_eq : conP h ships pr = mkSt (h, ships, beginOf ships, [], pr) := rfl
theorem ConOk.put (c : ConOk h ships pr) {ship : Nat} {hour : Int} (e : prCl (conP h ships pr) ship hour = none) : ConOk h ships (putPr pr ship hour) := by
  have z : hasWay h ships (beginOf ships) (putPr pr ship hour) = true := clash_no e
  refine ⟨c.wx, c.n12, by rw [put_len]; exact c.pl, fun q => ?_⟩
  unfold hasWay at z
  rw [q] at z
  cases z
theorem pr_put : prSt (conP h ships pr) ship hour = conP h ships (putPr pr ship hour) := rfl
theorem ConOk.prOk (c : ConOk h ships pr) {ship : Nat} {hour : Int} (hs : ship < ships.length) (hh : 0 ≤ hour ∧ hour ≤ 100) (hn : pr[ship]? = some none) : PrOk (conP h ships pr) ship hour := by
  have hl := c.pl
  refine ⟨c.wx.wd, begin_stt c.wx.wd, c.pl, hs, ?_, hn, ?_, ?_, ?_, fun e => ?_⟩
  · unfold inB
    simp only [Bool.and_eq_true, decide_eq_true_eq]
    exact hh
  · show plAt (beginOf ships) ship ≠ GONE
    rw [begin_at ships hs]
    decide
  · rw [c.start]
    exact c.planOk 0
  · show (othersOf (putPr pr ship hour) (ship : Int)).length ≤ 1
    refine others_len ?_ (by rw [put_len, hl]; exact hs)
    rw [put_len, hl]
    exact c.n12
  · have c2 := c.put e
    refine ⟨clash_no e, ?_⟩
    rw [pr_put, c2.start]
    exact c2.planOk 0
/-- those who clash are promised -/
theorem clash_kept {ship : Nat} {hour : Int} {l : List Int} (hs : ship < pr.length) (e : prCl (conP h ships pr) ship hour = some l) : ∀ x ∈ l, ∃ n : Nat, x = (n : Int) ∧ n < pr.length ∧ ∃ t, pr[n]? = some (some t) := by
  intro x hx
  have hx : x ∈ othersOf (putPr pr ship hour) (ship : Int) := (clash_yes e).2 x hx
  obtain ⟨n, rfl, h1, ⟨t, h2⟩, h3⟩ := others_mem.mp hx
  rw [put_len] at h1
  rw [put_at h1 (by omega)] at h2
  exact ⟨n, rfl, h1, t, h2⟩
end
end TW
/-! WH13: min of two numbers, calm or hot. -/
namespace TW
open PySem PySem.Spec PyProof.Rows L2 HotX
theorem walks_tup_hot {prog : Program} {w : World} {A : Around} (I ax x1 : Addr) (hne : ax ≠ I) (nx : x1 ≠ I) (items : Array Value) :
    Walks prog w A I [I, ax, x1] [I] items.size (fun i v => items[i]? = some v) (fun i h => h.IsTupleIter I ax i ∧ h.IsTuple ax items ∧ HotAt A x1 h) where
  sub := fun b hb => by rw [List.mem_singleton.mp hb]; exact .head _
  frame := fun _ _ _ st hk => ⟨st.1.at fun o e => hk I (.head _) o e, st.2.1.at fun o e => hk ax (.tail _ (.head _)) o e, st.2.2.1, by
    obtain ⟨o, vs, h1, h2, h3⟩ := st.2.2.2
    exact ⟨o, vs, hk x1 (.tail _ (.tail _ (.head _))) o h1, h2, h3⟩⟩
  item := fun i s Q E hi st hQ => wpAny_pyNext_tuple_item st.1 st.2.1 (x := items[i]) (by simp [hi]) fun h' hit' hs' => by
    obtain ⟨o, vs, h1, h2, h3⟩ := st.2.2.2
    exact hQ _ h' s.toks (by simp [hi]) ⟨hit', st.2.1.extBut hs'.extBut hne, st.2.2.1, o, vs, hs'.extBut _ _ nx h1, h2, h3⟩ fun b o hb e => hs'.extBut b o (fun h => hb (by simp [h])) e
  done := fun s Q E st hQ => pyNext_tuple_end_hot st.2.2 st.1 st.2.1 (by simp) fun h' he' => hQ h' s.toks fun b o hb e => he' b o (fun h => hb (by simp [h])) e
  self := fun _ _ _ _ st hQ => wpAny_pyIter_tupleiter st.1 hQ
section
variable {prog : Program} {w : World} {A : Around} {E : Value → Shared → Prop} {s : Shared}
theorem argBest2 (a b : Int) (t u : Tok) : argBest (fun i j => decide (numAt #[(a, t), (b, u)] i < numAt #[(a, t), (b, u)] j)) 1 = if b < a then 1 else 0 := by
  by_cases c : b < a
  · simp [argBest, numAt, c]
  · simp [argBest, numAt, c]
theorem min_two_hot {a b : Int} {t u : Tok} {x1 : Addr} {Q : Value → Shared → Prop} (hot : HotAt A.in1 x1 s.heap)
    (h : ∀ h' tk, (∀ c o, s.heap.get? c = some o → h'.get? c = some o) → Q (if b < a then .int b u else .int a t) { s with heap := h', toks := tk }) : wpAny (model prog w) A (call (.builtin "min") [.int a t, .int b u]) Q E s := by
  obtain ⟨hh, o1, vs1, h1, d1, c1⟩ := hot
  have hlt : x1 < s.heap.objs.size := Heap.lt_size h1
  generalize hP : s.heap.push { cls := .type "tuple", data := .seq #[.int a t, .int b u] } = hp
  have hT : hp.IsTuple s.heap.objs.size (intItems #[(a, t), (b, u)]) := by rw [← hP]; exact ⟨_, Heap.get?_push_size _ rfl, rfl, 0, by simp [intItems]⟩
  have old : ∀ c o, s.heap.get? c = some o → hp.get? c = some o := fun c o e => by rw [← hP]; exact Heap.get?_push_of_some _ e
  have sz : hp.objs.size = s.heap.objs.size + 1 := by rw [← hP]; exact Heap.size_push ..
  have l1 : s.heap.objs.size < hp.objs.size := by rw [sz]; exact Nat.lt_succ_self _
  refine call_min_two ?_
  rw [hP]
  refine wpAny_pyIter_tuple hT ⟨hp.objs.size, [hp.objs.size, s.heap.objs.size, x1], [hp.objs.size], _, _, _, _, rfl, walks_tup_hot hp.objs.size s.heap.objs.size x1 (Nat.ne_of_lt l1) (Nat.ne_of_lt (Nat.lt_trans hlt l1)) (intItems #[(a, t), (b, u)]),
    ⟨⟨_, Heap.get?_push_size _ rfl, rfl, rfl⟩, hT.push _, hh, o1, vs1, Heap.get?_push_of_some _ (old _ _ h1), d1, c1⟩, fun c hc => ?_, by simp [intItems], CmpOf.ints_lt (numAt #[(a, t), (b, u)]) (fun _ _ => intItems_at), fun v h' tk hv hk => ?_⟩
  · show c < (hp.push _).objs.size
    rw [Heap.size_push]
    rcases List.mem_cons.mp hc with rfl | hc
    · exact Nat.lt_succ_self _
    · rcases List.mem_cons.mp hc with rfl | hc
      · exact Nat.lt_succ_of_lt l1
      · rw [List.mem_singleton.mp hc]
        exact Nat.lt_succ_of_lt (Nat.lt_trans hlt l1)
  · have z := h h' tk fun c o e => hk c o (fun hm => by
      have e1 := List.mem_singleton.mp hm
      have e2 := Heap.lt_size e
      rw [e1] at e2
      exact Nat.lt_irrefl _ (Nat.lt_trans l1 e2)) (Heap.get?_push_of_some _ (old c o e))
    have e1 : (intItems #[(a, t), (b, u)]).size - 1 = 1 := by simp [intItems]
    have hv : (intItems #[(a, t), (b, u)])[argBest (fun i j => decide (numAt #[(a, t), (b, u)] i < numAt #[(a, t), (b, u)] j)) 1]? = some v := by rw [← e1]; exact hv
    rw [argBest2] at hv
    have ev : v = if b < a then Value.int b u else Value.int a t := by
      split at hv
      · rename_i c
        rw [if_pos c]
        simpa [intItems] using hv.symm
      · rename_i c
        rw [if_neg c]
        simpa [intItems] using hv.symm
    rw [ev]
    exact z
end
section
variable {X : Cx} {σ : L2.St} {B : Hp} {a b : Expr} {pp pos : Pos} {i j : Int}
theorem call_min2H (hc : L2H.HotC X) : CallR X (.builtin "min") (fun xs H Q => ∃ i j, xs = [.int i, .int j] ∧ Q (.int (if j < i then j else i)) H) := by
  intro pins s σ H xs us Q I r h
  obtain ⟨i, j, rfl, q⟩ := h
  obtain ⟨u, w', rfl, ⟨t, rfl⟩, t', rfl⟩ := vals2 r
  obtain ⟨x1, hot⟩ := hc.at I
  refine min_two_hot hot fun h' tk k => ⟨_, H, I.kept k, ?_, q⟩
  by_cases c : j < i
  · rw [if_pos c, if_pos c]
    exact ⟨_, rfl⟩
  · rw [if_neg c, if_neg c]
    exact ⟨_, rfl⟩
theorem x_min2C (hc : CH X) (hg : Gl X "min") (hm : X.mg "min" = none) (ha : XI X a σ B i) (hb : XI X b σ B j) (hs1 : starEach [a, b] X.env = (false, eval a X.env) :: starEach [b] X.env := by rfl) (hs2 : starEach [b] X.env = (false, eval b X.env) :: starEach [] X.env := by rfl) : XI X (.Call (.Name "min" pp) [a, b] [] pos) σ B (if j < i then j else i) :=
  x_callB (hc.elim call_min2 call_min2H) hg hm (by decide +kernel) (xd_cons ha (xd_cons hb xd_nil hs2) hs1) (he := hs1) (hpl := by rw [hs2]; rfl) fun C H vs _ s pv Q k => by
    obtain ⟨v1, v2, rfl, p1, p2⟩ := inv2 pv
    obtain rfl := p1.int_v
    obtain rfl := p2.int_v
    exact ⟨i, j, rfl, k _ C H (.rfl s) (.int _)⟩
end
end TW
/-! WL5: _law_tuples. -/
namespace TW
open PySem PySem.Spec PyProof.Rows L2
theorem rgD_eq (lo hi : Int) : rgD lo (hi - lo).toNat = (irange lo hi).map PyData.int := by
  unfold rgD irange
  rw [List.map_map]
  rfl
theorem xib_rng {X : Cx} {tg a b : Expr} {σ : L2.St} {B : Hp} {pos pp : Pos} {m n : Int} (hg : Gl X "range") (hm : X.mg "range" = none) (h1 : XI X a σ B m) (h2 : XI X b σ B n) (hn : -1000000 ≤ m ∧ m ≤ 1000000 ∧ -1000000 ≤ n ∧ n ≤ 1000000)
    (hs1 : starEach [a, b] X.env = (false, eval a X.env) :: starEach [b] X.env := by rfl) (hs2 : starEach [b] X.env = (false, eval b X.env) :: starEach [] X.env := by rfl) (hs : starEach [a, b] X.env = [(false, eval a X.env), (false, eval b X.env)] := by rfl) (hs' : starEach [b] X.env = [(false, eval b X.env)] := by rfl) : XIB X tg (.Call (.Name "range" pp) [a, b] [] pos) σ B ((irange m n).map PyData.int) := by
  rw [← rgD_eq]
  exact ⟨xi_range2 hg hm h1 h2 hn hs1 hs2 hs hs', xih_range2 hg hm h1 h2 hn hs1 hs2 hs hs'⟩
theorem xib_rng1 {X : Cx} {tg e : Expr} {σ : L2.St} {B : Hp} {pos pp : Pos} {n : Int} (hg : Gl X "range") (hm : X.mg "range" = none) (h : XI X e σ B n) (hn : 0 ≤ n ∧ n ≤ 1000000) (hs1 : starEach [e] X.env = (false, eval e X.env) :: starEach [] X.env := by rfl) (hs : starEach [e] X.env = [(false, eval e X.env)] := by rfl) : XIB X tg (.Call (.Name "range" pp) [e] [] pos) σ B ((irange 0 n).map PyData.int) := by
  rw [← rgD_eq, Int.sub_zero]
  exact xib_range1 hg hm h hn hs1 hs
theorem irange_len (lo hi : Int) : (irange lo hi).length = (hi - lo).toNat := by
  unfold irange
  rw [List.length_map, List.length_range]
theorem flat_le {α β : Type} {f : α → List β} {c : Nat} (h : ∀ a, (f a).length ≤ c) : ∀ l : List α, (l.flatMap f).length ≤ c * l.length
  | [] => Nat.le_refl _
  | a :: l => by
    have := flat_le h l
    have := h a
    rw [List.flatMap_cons, List.length_append, List.length_cons, Nat.mul_succ]
    omega
theorem take_flat {α β : Type} {f : α → List β} {l : List α} {i : Nat} {a : α} (h : l[i]? = some a) : (l.take (i + 1)).flatMap f = (l.take i).flatMap f ++ f a := by
  rw [List.take_add_one, h, List.flatMap_append]
  simp
theorem take_fm {α β : Type} {f : α → Option β} {l : List α} {i : Nat} {a : α} (h : l[i]? = some a) : (l.take (i + 1)).filterMap f = (l.take i).filterMap f ++ (match f a with | some r => [r] | none => []) := by
  rw [List.take_add_one, h, List.filterMap_append]
  cases q : f a <;> simp [q]
theorem tupBs_len {h : Harb} {s : Ship} {a o : Int} {k : Nat} (hb : h.berths.length ≤ 2) : (((irange 0 h.berths.length).take k).filterMap fun b => if tupB h s a o b = true then some (a, b, o) else none).length ≤ 2 := by
  refine Nat.le_trans (List.length_filterMap_le _ _) (Nat.le_trans (List.length_take_le' _ _) ?_)
  rw [irange_len]
  omega
section
variable {P : Program} {w : World} {K : PySem.W.Frag} {mg : Str → Option Value} {base : Heap}
structure TupOk (h : Harb) (s : Ship) : Prop where
  d : 0 < h.depths.length
  b : h.berths.length ≤ 2
  la : 0 ≤ h.last ∧ h.last ≤ 100
  rd : 0 ≤ s.ready ∧ s.ready ≤ 100
  st : 0 ≤ s.stay ∧ s.stay ≤ 100
def A59 (K : PySem.W.Frag) (y : Harb × Ship) (B : Hp) (vs : List V) : Prop := TupOk y.1 y.2 ∧ DqAll K B vs [eHarb y.1, eShip y.2]
theorem x_depth {X : Cx} {σ : L2.St} {B : Hp} {hd : Harb} {t : Int} {e1 e2 e3 : Expr} {p1 p2 p3 p4 p5 pos : Pos} (T : Txt X.K X.mg) (gi : Gl X "int") (gl : Gl X "len") (h0 : 0 < hd.depths.length) (h1 : XE X e1 σ B (DD X.K (eInts hd.depths))) (h3 : XE X e3 σ B (DD X.K (eInts hd.depths))) (h2 : XI X e2 σ B t)
    (hs1 : starEach [e2] X.env = (false, eval e2 X.env) :: starEach [] X.env := by rfl) (hs2 : starEach [e3] X.env = (false, eval e3 X.env) :: starEach [] X.env := by rfl) : XI X (.Subscript e1 (.BinOp (.Call (.Name "int" p1) [e2] [] p2) .Mod (.Call (.Name "len" p3) [e3] [] p4) p5) pos) σ B (depthAt hd t) := by
  have el : ((hd.depths.map PyData.int).length : Int) = (hd.depths.length : Int) := by rw [List.length_map]
  have hm := emod_in t h0
  refine x_ixL (ds := hd.depths.map PyData.int) h1 (x_mod (j := (hd.depths.length : Int)) (x_intI gi T.b_int h2 hs1) (by rw [← el]; exact x_lenL (ds := hd.depths.map PyData.int) gl T.b_len h3 hs2) (by omega)) ?_
  exact atI_map hm.1 hm.2
theorem dn59 (T : Txt K mg) : DnC P w K mg base 1 "_law_tuples" ["_law_harbour", "_law_ship"] (SpP (A59 K) fun y => DD K (eTrips (tuplesOf y.1 y.2))) :=
  dn_ofC T.f59 sc59 (fun _ _ _ _ _ _ us hl => match us, hl with | [_, _], _ => rfl) (fun y B vs h => h.2.length) fun f cdv A0 outer s H vs E b pn y B Q hr sb ha q => by
    obtain ⟨hd, sp⟩ := y
    obtain ⟨⟨k1, k2, k3, k4, k5⟩, hv⟩ := ha
    change 0 < hd.depths.length at k1
    change hd.berths.length ≤ 2 at k2
    change 0 ≤ hd.last ∧ hd.last ≤ 100 at k3
    change 0 ≤ sp.ready ∧ sp.ready ≤ 100 at k4
    change 0 ≤ sp.stay ∧ sp.stay ≤ 100 at k5
    obtain ⟨v1, v2, rfl, r1, r2⟩ := inv2 hv
    refine ws_cons (ws_asg (P := DD K (eHarb hd)) (x_var 0 rfl r1) sb fun tv B1 H1 g1 p1 => ?_)
    obtain ⟨l, w1, w2, w3, w4, w5, rfl, hq, q1, q2, q3, q4, q5⟩ := tup5 p1
    refine ⟨_, xg_tupC hr.ch hq (xgs_cons (xg_name 2 sc59.nd) (xgs_cons (xg_name 3 sc59.nd) (xgs_cons (xg_name 4 sc59.nd) (xgs_cons (xg_name 5 sc59.nd) (xgs_cons (xg_name 6 sc59.nd) xgs_nil))))), ?_⟩
    refine ws_cons (ws_newL 7 xd_nil g1.bh (fun F vs B2 H2 g2 p2 hF => ?_) (hN := sc59.nd))
    obtain rfl := inv0 p2
    have g12 := g1.trans g2
    have hF' : H F = none := g12.hh.free hF
    have ac0 : Acc K B H F [] B2 (upd H2 F (.lst [])) := ⟨g12.mut hF' (g12.bh.free hF), g12.bh.free hF, [], upd_same, .nil⟩
    have hu := hr.un64
    have la := (irange_len sp.ready (hd.last + 1))
    have R2 : ∀ {C : Hp}, Same B2 C → Dq K C v2 (eShip sp) := fun s => Dq.up (g12.bb.trans s) _ _ r2
    have D1 : ∀ {C : Hp}, Same B2 C → Dq K C w1 (eInts hd.depths) := fun s => Dq.up (g2.bb.trans s) _ _ q1
    have D2 : ∀ {C : Hp}, Same B2 C → Dq K C w2 (eInts hd.berths) := fun s => Dq.up (g2.bb.trans s) _ _ q2
    have D3 : ∀ {C : Hp}, Same B2 C → Dq K C w3 (.int hd.tugs) := fun s => Dq.up (g2.bb.trans s) _ _ q3
    have D5 : ∀ {C : Hp}, Same B2 C → Dq K C w5 (.int hd.last) := fun s => Dq.up (g2.bb.trans s) _ _ q5
    refine ws_cons (ws_forG (l := irange sp.ready (hd.last + 1)) (enc := PyData.int) hr.ch (xib_rng rfl T.b_range (x_ixT (x_var 1 rfl (R2 (.refl _))) x_int rfl) (x_add (x_var 6 rfl (D5 (.refl _))) x_int) (by omega)) ac0.bh fun B3 H3 g3 => ?_)
    refine ⟨fun i σ' B' H' => (∃ x8 x9 x10 x11, σ' = [some v1, some v2, some w1, some w2, some w3, some w4, some w5, some (.ref F), x8, x9, x10, x11]) ∧ Acc K B H F ((((irange sp.ready (hd.last + 1)).take i).flatMap (tupOs hd sp)).map eTrip) B' H' ∧ Same B3 B',
      ⟨⟨_, _, _, _, rfl⟩, ac0.step g3, .refl _⟩, fun i σ' B' H' h => ⟨h.2.2, h.2.1.bh⟩, ?_, ?_⟩
    · rintro i a v σ' B' H' B4 H4 ea ⟨⟨x8, x9, x10, x11, rfl⟩, ac, s3⟩ g4 dv
      have ha := irange_mem.mp (List.mem_of_getElem? ea)
      have ac4 := ac.step g4
      have s24 := (g3.bb.trans s3).trans g4.bb
      refine ⟨_, xg_name 8 sc59.nd, ?_⟩
      refine ws_one (ws_forG (l := irange (a + sp.stay + 1) (hd.last + 1)) (enc := PyData.int) hr.ch (xib_rng rfl T.b_range (x_add (x_add (x_var 8 rfl dv) (x_ixT (x_var 1 rfl (R2 s24)) x_int rfl)) x_int) (x_add (x_var 6 rfl (D5 s24)) x_int) (by omega)) ac4.bh fun B5 H5 g5 => ?_)
      refine ⟨fun j σ' B' H' => (∃ x9 x10 x11, σ' = [some v1, some v2, some w1, some w2, some w3, some w4, some w5, some (.ref F), some v, x9, x10, x11]) ∧ Acc K B H F ((((irange sp.ready (hd.last + 1)).take i).flatMap (tupOs hd sp) ++ ((irange (a + sp.stay + 1) (hd.last + 1)).take j).flatMap (tupBs hd sp a)).map eTrip) B' H' ∧ Same B5 B',
        ⟨⟨_, _, _, rfl⟩, by rw [List.take_zero, List.flatMap_nil, List.append_nil]; exact ac4.step g5, .refl _⟩, fun i σ' B' H' h => ⟨h.2.2, h.2.1.bh⟩, ?_, ?_⟩
      · rintro j o v' σ' B' H' B6 H6 eo ⟨⟨x9, x10, x11, rfl⟩, ac, s5⟩ g6 dv'
        have ho := irange_mem.mp (List.mem_of_getElem? eo)
        have ac6 := ac.step g6
        have s46 := (g5.bb.trans s5).trans g6.bb
        have s26 := s24.trans s46
        refine ⟨_, xg_name 9 sc59.nd, ?_⟩
        have dv6 := Dq.up s46 _ _ dv
        refine ws_cons (ws_set (P := DD K (.int (deepOf hd a o))) 10 (x_min2C hr.ch rfl T.b_min (x_depth T rfl rfl k1 (x_var 2 rfl (D1 s26)) (x_var 2 rfl (D1 s26)) (x_var 8 rfl dv6)) (x_depth T rfl rfl k1 (x_var 2 rfl (D1 s26)) (x_var 2 rfl (D1 s26)) (x_var 9 rfl dv'))) g6.bh (fun pv B7 H7 g7 p7 => ?_) (hN := sc59.nd))
        have ac7 := ac6.step g7
        have s27 := s26.trans g7.bb
        have el : ((hd.berths.map PyData.int).length : Int) = (hd.berths.length : Int) := by rw [List.length_map]
        refine ws_one (ws_forG (l := irange 0 hd.berths.length) (enc := PyData.int) hr.ch (xib_rng1 rfl T.b_range (by rw [← el]; exact x_lenL rfl T.b_len (x_var 3 rfl (D2 s27))) (by omega)) ac7.bh fun B8 H8 g8 => ?_)
        refine ⟨fun k σ' B' H' => (∃ x11, σ' = [some v1, some v2, some w1, some w2, some w3, some w4, some w5, some (.ref F), some v, some v', some pv, x11]) ∧ Acc K B H F ((((irange sp.ready (hd.last + 1)).take i).flatMap (tupOs hd sp) ++ ((irange (a + sp.stay + 1) (hd.last + 1)).take j).flatMap (tupBs hd sp a) ++ ((irange 0 hd.berths.length).take k).filterMap (fun b => if tupB hd sp a o b = true then some (a, b, o) else none)).map eTrip) B' H' ∧ Same B8 B',
          ⟨⟨_, rfl⟩, by rw [List.take_zero, List.filterMap_nil, List.append_nil]; exact ac7.step g8, .refl _⟩, fun i σ' B' H' h => ⟨h.2.2, h.2.1.bh⟩, ?_, ?_⟩
        · rintro k bb vb σ' B' H' B9 H9 eb ⟨⟨x11, rfl⟩, ac, s8⟩ g9 dvb
          have hb := irange_mem.mp (List.mem_of_getElem? eb)
          have ac9 := ac.step g9
          have s79 := (g8.bb.trans s8).trans g9.bb
          have s29 := s27.trans s79
          have dva := Dq.up (g7.bb.trans s79) _ _ dv6
          have dvo := Dq.up (g7.bb.trans s79) _ _ dv'
          have dvd := Dq.up s79 _ _ p7
          refine ⟨_, xg_name 11 sc59.nd, ?_⟩
          have hat : atI (hd.berths.map PyData.int) bb = some (.int (hd.berths.getD bb.toNat 0)) := atI_map hb.1 (by omega)
          refine ws_one (ws_if (t := tupB hd sp a o bb) (xt_w (xw_and (xt_cmp c_ge (x_var 10 rfl dvd) (x_ixT (x_var 1 rfl (R2 s29)) x_int rfl)) fun _ => xw_and (xt_cmp c_ge (x_ixL (x_var 3 rfl (D2 s29)) (x_var 11 rfl dvb) hat) (x_ixT (x_var 1 rfl (R2 s29)) x_int rfl)) fun _ => xw_and1 (xt_cmp c_ge (x_var 4 rfl (D3 s29)) (x_ixT (x_var 1 rfl (R2 s29)) x_int rfl)))) ac9.bh (fun hc B10 H10 g10 => ?_) fun hc B10 H10 g10 => ?_)
          · have ac10 := ac9.step g10
            refine ws_one (ws_accApp (d := eTrip (a, bb, o)) ac10 hF' (fun C _ => x_var 7 rfl rfl) (x_tup (xd_cons (x_var 8 rfl (Dq.up g10.bb _ _ dva)) (xd_cons (x_var 11 rfl (Dq.up g10.bb _ _ dvb)) (xd_cons (x_var 9 rfl (Dq.up g10.bb _ _ dvo)) xd_nil)))) ?_ fun B11 H11 s11 a11 => ⟨B11, ⟨_, rfl⟩, ?_, ((s8.trans g9.bb).trans g10.bb).trans s11⟩)
            · rw [List.length_map, List.length_append, List.length_append]
              have m1 : ∀ a o, (tupBs hd sp a o).length ≤ 2 := fun a o => by
                have z := tupBs_len (h := hd) (s := sp) (a := a) (o := o) (k := (irange 0 hd.berths.length).length) k2
                rw [List.take_length] at z
                exact z
              have m2 : ∀ a, (tupOs hd sp a).length ≤ 2 * (hd.last + 1 - (a + sp.stay + 1)).toNat := fun a => by
                have z := flat_le (f := tupBs hd sp a) (c := 2) (m1 a) (irange (a + sp.stay + 1) (hd.last + 1))
                rw [irange_len] at z
                exact z
              have m3 := flat_le (f := tupBs hd sp a) (c := 2) (m1 a) ((irange (a + sp.stay + 1) (hd.last + 1)).take j)
              have m4 := List.length_take_le' j (irange (a + sp.stay + 1) (hd.last + 1))
              rw [irange_len] at m4
              have m5 := tupBs_len (h := hd) (s := sp) (a := a) (o := o) (k := k) k2
              have m6 : ∀ l : List Int, (∀ x ∈ l, 0 ≤ x) → (l.flatMap (tupOs hd sp)).length ≤ 202 * l.length := by
                intro l hl
                induction l with
                | nil => exact Nat.le_refl _
                | cons x l ih =>
                  have := ih fun y hy => hl y (.tail _ hy)
                  have := m2 x
                  have := hl x (.head _)
                  rw [List.flatMap_cons, List.length_append, List.length_cons]
                  omega
              have m7 := m6 ((irange sp.ready (hd.last + 1)).take i) fun x hx => by
                have := irange_mem.mp (List.mem_of_mem_take hx)
                omega
              have m8 := List.length_take_le' i (irange sp.ready (hd.last + 1))
              rw [irange_len] at m8
              rw [line_big]
              omega
            · rw [take_fm eb, if_pos hc]
              rw [← List.append_assoc, List.map_append]
              exact a11
          · refine ws_nil ⟨B10, ⟨_, rfl⟩, ?_, (s8.trans g9.bb).trans g10.bb⟩
            rw [take_fm eb, hc, if_neg (by simp), List.append_nil]
            exact ac9.step g10
        · rintro σ' B' H' ⟨⟨x11, rfl⟩, ac, s8⟩
          refine ⟨B', ⟨_, _, _, rfl⟩, ?_, (((s5.trans g6.bb).trans g7.bb).trans g8.bb).trans s8⟩
          rw [List.take_of_length_le (Nat.le_refl _)] at ac
          rw [take_flat eo, ← List.append_assoc]
          exact ac
      · rintro σ' B' H' ⟨⟨x9, x10, x11, rfl⟩, ac, s5⟩
        refine ⟨B', ⟨_, _, _, _, rfl⟩, ?_, ((s3.trans g4.bb).trans g5.bb).trans s5⟩
        rw [List.take_of_length_le (Nat.le_refl _)] at ac
        rw [take_flat ea]
        exact ac
    · rintro σ' B' H' ⟨⟨x8, x9, x10, x11, rfl⟩, ac, s3⟩
      rw [List.take_of_length_le (Nat.le_refl _)] at ac
      obtain ⟨B9, g9, p9, _⟩ := ac.done hF'
      exact ws_one (ws_ret (P := DD K (eTrips (tuplesOf hd sp))) (x_var 7 rfl p9) g9.bh fun v B5 H5 g5 p5 => q v B5 H5 (g9.trans g5) p5)
end
end TW
/-! WH14: name = [..] hot; comprehensions with room, calm or hot; any. -/
namespace TW
open PySem PySem.Spec PyProof.Rows L2
section
variable {X : Cx} {tg iter elt c : Expr} {ifs : List Expr} {σ : L2.St} {B C H : Hp} {pos spos py : Pos} {scope : Scope} {own : List (Str × Nat)} {i : Nat} {y : Str}
theorem ps_setLcH {wi : TI} {g : TG} {tt : TT} {te : TE} (hc : L2H.HotC X) (hN : X.N.Nodup) (hy : X.N[i]? = some y) (hyl : X.env.scope.names.lookup y = some .local) (hsw : swapsWith (.ListComp elt [⟨tg, iter, ifs, 0⟩] scope pos) (some (.Name y py)) spos.line X.env = pure true) (hi : L2H.PIH X tg iter wi) (ok : BlkOk X.N X.env.scope scope own)
    (hg : ∀ (s : Shared) (H : Hp) (C : Addr) (cl : List (Str × Addr)) (fp : List Addr), PG (X.blkH s H scope (compEnvC scope cl C X.env) fp) tg g) (ht : ∀ (s : Shared) (H : Hp) (C : Addr) (cl : List (Str × Addr)) (fp : List Addr), PTs (X.blkH s H scope (compEnvC scope cl C X.env) fp) ifs tt)
    (he : ∀ (s : Shared) (H : Hp) (C : Addr) (cl : List (Str × Addr)) (fp : List Addr), PE (X.blkH s H scope (compEnvC scope cl C X.env) fp) elt te) (hs : ∀ x, foldedSetIterable iter X.env x = pure x := by intro _; rfl) :
    PS X (.Assign [.Name y py] (.ListComp elt [⟨tg, iter, ifs, 0⟩] scope pos) spos) (tAsg (tLc wi g tt te (own.map (·.2))) (gName i)) := by
  refine ⟨fun pins s σ H D I h => ?_⟩
  rw [exec_Assign_Name_used _ _ _ _ hsw]
  refine wpAny_bind (wpAny_standAt (wpAny_bind ?_))
  have q0 : tLc wi g tt te (own.map (·.2)) σ H (fun x H1 => gName i x σ H1 D.nx) := h
  refine wpAny_bind (thn (lc_coreH (use := some (assign (.Name y py) X.env)) (Qf := fun _ s' => SP X pins D .next s') hc hN I hi ok hg ht he hs q0 fun L C s' m H' I' q hn f => ?_) fun _ s' hq => wpAny_pure (wpAny_pure hq))
  obtain ⟨f0, f1, f2, f3, f4, f5⟩ := f
  refine wpAny_assign_Name (store_ok2 (v := V.ref L) I' hN hy (.inl hyl) rfl (fun s2 I2 ⟨a, sb, ha⟩ => ?_) (.inr hyl))
  have haC : C ≠ a := ha.elim (fun z => by rw [z]; exact f1) fun z e => f4 y a z e.symm
  exact ⟨m, hn.sameBut sb haC, fun h3 sb3 => ⟨_, H', I2.turned (t' := s2.toks) (fun b o hb e => (sb3.2 b hb).trans e) f0 f1 f3 f4 f5, q⟩⟩
theorem ws_setLcH {α β : Type} {l : List α} {enc : α → PyData} {enc' : β → PyData} {D : Ends} (i : Nat) (h : XIH_ X tg iter σ B (l.map enc)) (g : α → Option β) (turn : LcTurnH X tg elt ifs scope (own.map (·.2)) σ B l enc g enc') (s : Same B H) (k : ∀ v B' H', Gr B H B' H' → DD X.K (.list ((l.filterMap g).map enc')) B' v → D.nx (σ.set i (some v)) H') (hz : l.length < sizeLine)
    (hc : L2H.HotC X) (hN : X.N.Nodup) (ok : BlkOk X.N X.env.scope scope own) (hsw : swapsWith (.ListComp elt [⟨tg, iter, ifs, 0⟩] scope pos) (some (.Name y py)) spos.line X.env = pure true) (hy : X.N[i]? = some y) (hyl : X.env.scope.names.lookup y = some .local)
    (hs : ∀ x, foldedSetIterable iter X.env x = pure x := by intro _; rfl) : WS X (.Assign [.Name y py] (.ListComp elt [⟨tg, iter, ifs, 0⟩] scope pos) spos) D σ H :=
  ws_of (ps_setLcH hc hN hy hyl hsw piHW ok (fun s H C cl fp => ⟨fun pins st σ H' v u Q I r q => q _ ⟨s, H, C, cl, fp, rfl⟩ pins st u I r⟩) (fun s H C cl fp => ⟨fun pins st σ H' Q I q => q _ ⟨s, H, C, cl, fp, rfl⟩ pins st I⟩)
    (fun s H C cl fp => ⟨fun pins st σ H' Q I q => q _ ⟨s, H, C, cl, fp, rfl⟩ pins st I⟩) hs) (lc_readH h g hz turn s k)
/-- a block of X, with room -/
def BlkR (k : Nat) (X : Cx) (scope : Scope) (XB : Cx) : Prop := CHR k XB ∧ (Blk X scope XB ∨ BlkH X scope XB)
theorem BlkR.calm {k : Nat} {XB : Cx} (hc : X.calm = true) (hr : Room k X.A) (hb : Blk X scope XB) : BlkR k X scope XB := by
  refine ⟨?_, .inl hb⟩
  obtain ⟨_, _, _, _, _, rfl⟩ := hb
  exact .inl ⟨hc, hr⟩
theorem BlkR.hot {k : Nat} {XB : Cx} (hc : L2H.HotC X) (hr : L2H.RoomH k X.A) (hb : BlkH X scope XB) : BlkR k X scope XB := by
  refine ⟨?_, .inr hb⟩
  obtain ⟨_, _, _, _, _, rfl⟩ := hb
  exact .inr ⟨hc, hr⟩
def LcTurnR {α β : Type} (k : Nat) (X : Cx) (tg elt : Expr) (ifs : List Expr) (scope : Scope) (vs : List Nat) (σ : L2.St) (B : Hp) (l : List α) (enc : α → PyData) (g : α → Option β) (enc' : β → PyData) : Prop :=
  ∀ (i : Nat) (a : α) (v : V) (B' : Hp), l[i]? = some a → Same B B' → Dq X.K B' v (enc a) → ∃ σ2, wipe σ2 vs = wipe σ vs ∧ ∀ XB, BlkR k X scope XB → XG XB tg v (wipe σ vs) B' σ2 ∧ XTs XB ifs σ2 B' (g a).isSome ∧ ∀ r, g a = some r → XE XB elt σ2 B' (DD X.K (enc' r))
variable {α β : Type} {l : List α} {enc : α → PyData} {enc' : β → PyData} {k : Nat}
theorem x_lcR (hr : CHR k X) (h : XIB X tg iter σ B (l.map enc)) (g : α → Option β) (turn : LcTurnR k X tg elt ifs scope (own.map (·.2)) σ B l enc g enc') (hz : l.length < sizeLine) (hN : X.N.Nodup) (ok : BlkOk X.N X.env.scope scope own)
    (hs : ∀ x, foldedSetIterable iter X.env x = pure x := by intro _; rfl) : XE X (.ListComp elt [⟨tg, iter, ifs, 0⟩] scope pos) σ B (DD X.K (.list ((l.filterMap g).map enc'))) := by
  rcases hr with ⟨hc, hr⟩ | ⟨hc, hr⟩
  · refine x_lc h.1 g (fun i a v B' ea sb hd => ?_) hz hc hN ok hs
    obtain ⟨σ2, e, q⟩ := turn i a v B' ea sb hd
    exact ⟨σ2, e, fun XB hb => q XB (.calm hc hr hb)⟩
  · refine x_lcH h.2 g (fun i a v B' ea sb hd => ?_) hz hc hN ok hs
    obtain ⟨σ2, e, q⟩ := turn i a v B' ea sb hd
    exact ⟨σ2, e, fun XB hb => q XB (.hot hc hr hb)⟩
theorem ws_setLcR {D : Ends} (i : Nat) (hr : CHR k X) (h : XIB X tg iter σ B (l.map enc)) (g : α → Option β) (turn : LcTurnR k X tg elt ifs scope (own.map (·.2)) σ B l enc g enc') (s : Same B H) (k' : ∀ v B' H', Gr B H B' H' → DD X.K (.list ((l.filterMap g).map enc')) B' v → D.nx (σ.set i (some v)) H') (hz : l.length < sizeLine)
    (hN : X.N.Nodup) (ok : BlkOk X.N X.env.scope scope own) (hsw : swapsWith (.ListComp elt [⟨tg, iter, ifs, 0⟩] scope pos) (some (.Name y py)) spos.line X.env = pure true) (hy : X.N[i]? = some y := by rfl) (hyl : X.env.scope.names.lookup y = some .local := by rfl)
    (hs : ∀ x, foldedSetIterable iter X.env x = pure x := by intro _; rfl) : WS X (.Assign [.Name y py] (.ListComp elt [⟨tg, iter, ifs, 0⟩] scope pos) spos) D σ H := by
  rcases hr with ⟨hc, hr⟩ | ⟨hc, hr⟩
  · refine ws_setLc i h.1 g (fun i a v B' ea sb hd => ?_) s k' hz hc hN ok hsw hy hyl hs
    obtain ⟨σ2, e, q⟩ := turn i a v B' ea sb hd
    exact ⟨σ2, e, fun XB hb => q XB (.calm hc hr hb)⟩
  · refine ws_setLcH i h.2 g (fun i a v B' ea sb hd => ?_) s k' hz hc hN ok hsw hy hyl hs
    obtain ⟨σ2, e, q⟩ := turn i a v B' ea sb hd
    exact ⟨σ2, e, fun XB hb => q XB (.hot hc hr hb)⟩
theorem lc_mapR {tg elt : Expr} {scope : Scope} {ws : List Nat} {σ σ2 : L2.St} {v : V} {B' : Hp} {a : α} {f : α → β} {enc' : β → PyData}
    (hx : ∀ XB, BlkR k X scope XB → XG XB tg v (wipe σ ws) B' σ2 ∧ XE XB elt σ2 B' (DD X.K (enc' (f a)))) (hw : wipe σ2 ws = wipe σ ws) :
    ∃ σ2, wipe σ2 ws = wipe σ ws ∧ ∀ XB, BlkR k X scope XB → XG XB tg v (wipe σ ws) B' σ2 ∧ XTs XB [] σ2 B' ((fun a => some (f a)) a).isSome ∧ ∀ r, (fun a => some (f a)) a = some r → XE XB elt σ2 B' (DD X.K (enc' r)) :=
  ⟨σ2, hw, fun XB h => ⟨(hx XB h).1, xts_nil, fun r hr => by
    cases hr
    exact (hx XB h).2⟩⟩
theorem x_lcMR (f : α → β) (hr : CHR k X) (h : XIB X tg iter σ B (l.map enc)) (turn : LcTurnR k X tg elt [] scope (own.map (·.2)) σ B l enc (fun a => some (f a)) enc') (hz : l.length < sizeLine) (hN : X.N.Nodup) (ok : BlkOk X.N X.env.scope scope own)
    (hs : ∀ x, foldedSetIterable iter X.env x = pure x := by intro _; rfl) : XE X (.ListComp elt [⟨tg, iter, [], 0⟩] scope pos) σ B (DD X.K (.list ((l.map f).map enc'))) := by
  have z := x_lcR (pos := pos) hr h (fun a => some (f a)) turn hz hN ok hs
  rw [fm_map] at z
  exact z
theorem x_anyC {e : Expr} {bs : List Bool} {pp : Pos} (hc : CH X) (hg : Gl X "any") (hm : X.mg "any" = none) (ha : XE X e σ B (DD X.K (.list (bs.map .bool)))) (hs1 : starEach [e] X.env = (false, eval e X.env) :: starEach [] X.env := by rfl) : XB X (.Call (.Name "any" pp) [e] [] pos) σ B (bs.any id) :=
  x_callB (cr_anyC hc) hg hm (by decide +kernel) (xd_cons ha xd_nil hs1) (he := hs1) fun C H vs _ s pv Q k => by
    obtain ⟨v1, rfl, p1⟩ := inv1 pv
    obtain ⟨l, rfl, h1⟩ := bools_at p1
    exact ⟨l, bs, rfl, .of (s _ _ h1), k _ C H (.rfl s) (.bl _)⟩
end
end TW
/-! WL6: _law_has_plan. -/
namespace TW
open PySem PySem.Spec PyProof.Rows L2
theorem tuples_len {h : Harb} {s : Ship} (k : TupOk h s) : (tuplesOf h s).length ≤ 20402 := by
  obtain ⟨k1, k2, k3, k4, k5⟩ := k
  have m1 : ∀ a o, (tupBs h s a o).length ≤ 2 := fun a o => by
    have z := tupBs_len (h := h) (s := s) (a := a) (o := o) (k := (irange 0 h.berths.length).length) k2
    rw [List.take_length] at z
    exact z
  have m6 : ∀ l : List Int, (∀ x ∈ l, 0 ≤ x) → (l.flatMap (tupOs h s)).length ≤ 202 * l.length := by
    intro l hl
    induction l with
    | nil => exact Nat.le_refl _
    | cons x l ih =>
      have h1 := ih fun y hy => hl y (.tail _ hy)
      have h2 : (tupOs h s x).length ≤ 2 * (h.last + 1 - (x + s.stay + 1)).toNat := by
        have z := flat_le (f := tupBs h s x) (c := 2) (m1 x) (irange (x + s.stay + 1) (h.last + 1))
        rw [irange_len] at z
        exact z
      have h3 := hl x (.head _)
      rw [List.flatMap_cons, List.length_append, List.length_cons]
      omega
  have m7 := m6 (irange s.ready (h.last + 1)) fun x hx => by
    have := irange_mem.mp hx
    omega
  rw [irange_len] at m7
  show ((irange s.ready (h.last + 1)).flatMap (tupOs h s)).length ≤ _
  omega
section
variable {P : Program} {w : World} {K : PySem.W.Frag} {mg : Str → Option Value} {base : Heap}
def A61 (K : PySem.W.Frag) (y : Harb × List Ship) (B : Hp) (vs : List V) : Prop := ((∀ s ∈ y.2, TupOk y.1 s) ∧ (y.2.length = 1 ∨ y.2.length = 2)) ∧ DqAll K B vs [eHarb y.1, eShips y.2]
theorem dn61 (T : Txt K mg) : DnC P w K mg base 2 "_law_has_plan" ["_law_harbour", "_law_ships"] (SpP (A61 K) fun y => DD K (.bool (hasPlanB y.1 y.2))) :=
  dn_ofC T.f61 sc61 (fun _ _ _ _ _ _ us hl => match us, hl with | [_, _], _ => rfl) (fun y B vs h => h.2.length) fun f cdv A0 outer s H vs E b pn y B Q hr sb ha q => by
    obtain ⟨hd, ships⟩ := y
    obtain ⟨⟨k1, k2⟩, hv⟩ := ha
    change ∀ s ∈ ships, TupOk hd s at k1
    change ships.length = 1 ∨ ships.length = 2 at k2
    obtain ⟨v1, v2, rfl, r1, r2⟩ := inv2 hv
    have hu := hr.un64
    refine ws_cons (ws_setLcR (l := ships) (enc := eShip) (enc' := eTrips) (own := o61_0) 2 hr (xib_list (x_var 1 rfl r2)) (fun s => some (tuplesOf hd s)) ?_ sb (fun rv B1 H1 g1 p1 => ?_) (by rw [line_big]; omega) sc61.nd bk61_0 rfl)
    · intro i t v B' ea sb' hd'
      have arg : TupOk hd t := k1 t (List.mem_of_getElem? ea)
      apply lc_mapR (f := tuplesOf hd) (a := t) (enc' := eTrips)
      · rintro XB ⟨hrB, ⟨_, _, _, _, _, rfl⟩ | ⟨_, _, _, _, _, rfl⟩⟩
        · exact ⟨xg_name 4 sc61.nd, x_callC (y := (hd, t)) (dn59 T) hrB rfl (XA.imp (P := DDs K [eHarb hd, eShip t]) (xd_cons (x_var 0 rfl (Dq.up sb' _ _ r1)) (xd_cons (x_var 4 rfl hd') xd_nil)) fun C' vs _ q => ⟨arg, q⟩)⟩
        · exact ⟨xg_name 4 sc61.nd, x_callC (y := (hd, t)) (dn59 T) hrB rfl (XA.imp (P := DDs K [eHarb hd, eShip t]) (xd_cons (x_var 0 rfl (Dq.up sb' _ _ r1)) (xd_cons (x_var 4 rfl hd') xd_nil)) fun C' vs _ q => ⟨arg, q⟩)⟩
      · rfl
    · rw [fm_map] at p1
      have p1' : Dq K B1 rv (.list ((ships.map (tuplesOf hd)).map eTrips)) := p1
      have r11 := Dq.up g1.bb _ _ r1
      have r21 := Dq.up g1.bb _ _ r2
      have el : ((ships.map eShip).length : Int) = (ships.length : Int) := by rw [List.length_map]
      have lr : (ships.map (tuplesOf hd)).length = ships.length := List.length_map ..
      refine ws_cons (ws_if (t := decide (((ships.map eShip).length : Int) = 1)) (xt_cmp (c_eqI hu) (x_lenL rfl T.b_len (x_var 1 rfl r21)) x_int) g1.bh (fun hc B2 H2 g2 => ?_) fun hc B2 H2 g2 => ?_)
      · have hl : ships.length = 1 := by have := of_decide_eq_true hc; omega
        have e2 : (((rowsAt hd ships 0).map eTrip).length : Int) = ((rowsAt hd ships 0).length : Int) := by rw [List.length_map]
        refine ws_one (ws_ret (P := DD K (.bool (decide ((0 : Int) < (((rowsAt hd ships 0).map eTrip).length : Int))))) ?_ g2.bh fun v B3 H3 g3 p3 => q v B3 H3 ((g1.trans g2).trans g3) ?_)
        · exact x_cmp c_gt (x_lenL (ds := (rowsAt hd ships 0).map eTrip) rfl T.b_len (x_ixL (x_var 2 rfl (Dq.up g2.bb _ _ p1')) x_int (atI_nat (f := eTrips) (n := 0) (d := []) (by omega)))) x_int
        · have eh : hasPlanB hd ships = decide ((0 : Int) < (((rowsAt hd ships 0).map eTrip).length : Int)) := by
            unfold hasPlanB
            rw [if_pos hl, e2]
            by_cases z : 0 < (rowsAt hd ships 0).length
            · rw [decide_eq_true z, decide_eq_true (by omega)]
            · rw [decide_eq_false z, decide_eq_false (by omega)]
          show Dq K B3 v (.bool (hasPlanB hd ships))
          rw [eh]
          exact p3
      · have hl : ships.length = 2 := by have := of_decide_eq_false hc; omega
        have g12 := g1.trans g2
        have r12 := Dq.up g2.bb _ _ r11
        have r22 := Dq.up g2.bb _ _ r21
        have p2 := Dq.up g2.bb _ _ p1'
        have eh : hasPlanB hd ships = (rowsAt hd ships 0).any fun a => (rowsAt hd ships 1).any fun b => besideB hd ships a b := by
          unfold hasPlanB
          rw [if_neg (by omega)]
        refine ws_nil (ws_cons (ws_forG (l := rowsAt hd ships 0) (enc := eTrip) hr.ch (xib_list (x_ixL (x_var 2 rfl p2) x_int (atI_nat (f := eTrips) (n := 0) (d := []) (by omega)))) g12.bh fun B3 H3 g3 => ?_))
        refine ⟨fun i σ' B' H' => (∃ x3 x4 x5, σ' = [some v1, some v2, some rv, x3, x4, x5]) ∧ ((rowsAt hd ships 0).take i).any (fun a => (rowsAt hd ships 1).any fun b => besideB hd ships a b) = false ∧ Gr B2 H2 B' H' ∧ Same B3 B',
          ⟨⟨_, _, _, rfl⟩, by rw [List.take_zero]; rfl, g3, .refl _⟩, fun i σ' B' H' h => ⟨h.2.2.2, h.2.2.1.bh⟩, ?_, ?_⟩
        · rintro i a v σ' B' H' B4 H4 ea ⟨⟨x3, x4, x5, rfl⟩, hno, gg, s3⟩ g4 dv
          have g24 := gg.trans g4
          have p4 := Dq.up g24.bb _ _ p2
          have r14 := Dq.up g24.bb _ _ r12
          have r24 := Dq.up g24.bb _ _ r22
          have s0 : ships.getD 1 default ∈ ships := by
            rw [List.getD_eq_getElem?_getD, List.getElem?_eq_getElem (by omega)]
            exact List.getElem_mem (by omega)
          have lr1 : (rowsAt hd ships 1).length < sizeLine := by
            rw [rowsAt_eq (by omega), line_big]
            have := tuples_len (k1 _ s0)
            omega
          refine ⟨_, xg_name 3 sc61.nd, ?_⟩
          refine ws_one (ws_if (t := ((rowsAt hd ships 1).map fun b => besideB hd ships a b).any id) (xt_v (x_anyC hr.ch rfl T.b_any ?_)) g4.bh (fun hc B5 H5 g5 => ?_) fun hc B5 H5 g5 => ?_)
          · refine x_lcMR (l := rowsAt hd ships 1) (enc := eTrip) (enc' := PyData.bool) (own := o61_1) (fun o => besideB hd ships a o) hr (xib_list (x_ixL (x_var 2 rfl p4) x_int (atI_nat (f := eTrips) (l := ships.map (tuplesOf hd)) (n := 1) (d := []) (by omega)))) (fun i t v' B' ea' sb' hd' => ?_) lr1 sc61.nd bk61_1
            · apply lc_mapR (f := fun o => besideB hd ships a o) (a := t) (enc' := PyData.bool)
              · rintro XB ⟨hrB, ⟨_, _, _, _, _, rfl⟩ | ⟨_, _, _, _, _, rfl⟩⟩
                · exact ⟨xg_name 5 sc61.nd, x_callC (y := (hd, ships, a, t)) (dn60 T) hrB rfl (XA.imp (P := DDs K [eHarb hd, eShips ships, eTrip a, eTrip t]) (xd_cons (x_var 0 rfl (Dq.up sb' _ _ r14)) (xd_cons (x_var 1 rfl (Dq.up sb' _ _ r24)) (xd_cons (x_var 3 rfl (Dq.up sb' _ _ dv)) (xd_cons (x_var 5 rfl hd') xd_nil)))) fun C' vs _ q => ⟨hl, q⟩)⟩
                · exact ⟨xg_name 5 sc61.nd, x_callC (y := (hd, ships, a, t)) (dn60 T) hrB rfl (XA.imp (P := DDs K [eHarb hd, eShips ships, eTrip a, eTrip t]) (xd_cons (x_var 0 rfl (Dq.up sb' _ _ r14)) (xd_cons (x_var 1 rfl (Dq.up sb' _ _ r24)) (xd_cons (x_var 3 rfl (Dq.up sb' _ _ dv)) (xd_cons (x_var 5 rfl hd') xd_nil)))) fun C' vs _ q => ⟨hl, q⟩)⟩
              · rfl
          · rw [List.any_map] at hc
            refine ws_one (ws_ret (P := DD K (.bool true)) x_bl g5.bh fun v B6 H6 g6 p6 => q v B6 H6 (((g12.trans g24).trans g5).trans g6) ?_)
            have : hasPlanB hd ships = true := by
              rw [eh, List.any_eq_true]
              exact ⟨a, List.mem_of_getElem? ea, hc⟩
            show Dq K B6 v (.bool (hasPlanB hd ships))
            rw [this]
            exact p6
          · rw [List.any_map] at hc
            refine ws_nil ⟨B5, ⟨_, _, _, rfl⟩, ?_, g24.trans g5, (s3.trans g4.bb).trans g5.bb⟩
            rw [List.take_add_one, ea, List.any_append, hno]
            simp only [Option.toList_some, List.any_cons, List.any_nil, Bool.or_false, Bool.false_or]
            exact hc
        · rintro σ' B' H' ⟨⟨x3, x4, x5, rfl⟩, hno, gg, s3⟩
          rw [List.take_of_length_le (Nat.le_refl _)] at hno
          refine ws_one (ws_ret (P := DD K (.bool false)) x_bl gg.bh fun v B6 H6 g6 p6 => q v B6 H6 ((g12.trans gg).trans g6) ?_)
          show Dq K B6 v (.bool (hasPlanB hd ships))
          rw [eh, hno]
          exact p6
end
end TW
/-! WH15: own lists, read and changed: frozen for a read; name = [..] as an own list. -/
namespace TW
open PySem PySem.Spec PyProof.Rows L2
def XTat (X : Cx) (c : Expr) (σ : L2.St) (B H : Hp) (b : Bool) : Prop := ∀ Q : Bool → Hp → Prop, (∀ B' H', Gr B H B' H' → Q b H') → WT X c σ H Q
section
variable {X : Cx} {e o i c tg iter elt value : Expr} {ifs : List Expr} {sts sts' : List Stmt} {σ : L2.St} {B C H B0 H0 : Hp} {P P2 : Hp → V → Prop} {pos pos' spos py : Pos} {scope : Scope} {own : List (Str × Nat)} {D : Ends} {F : Addr} {xs : List V} {t : Bool} {n : Int} {ds es : List PyData} {d : PyData}
theorem at_frozenL (h : XE X e σ (upd B F (.lst xs)) P) (hP : ∀ B' v, P B' v → P2 (dropA B' F) v) (s : Same B H) (hF : H F = some (.lst xs)) (bF : B F = none) : XEat X e σ B H P2 := fun Q k =>
  h H (same_upd s hF) Q fun v B' H' g p => k v _ H' (g.unfreeze bF) (hP B' v p)
theorem at_frozenLT (h : XT X c σ (upd B F (.lst xs)) t) (s : Same B H) (hF : H F = some (.lst xs)) (bF : B F = none) : XTat X c σ B H t := fun Q k =>
  h H (same_upd s hF) Q fun B' H' g => k _ H' (g.unfreeze bF)
theorem int_drop {K : PySem.W.Frag} {B' : Hp} {v : V} (p : DD K (.int n) B' v) : DD K (.int n) (dropA B' F) v := by
  obtain rfl := Dq.int_v p
  exact .int _
theorem ws_ifA (h : XTat X c σ B H t) (k1 : t = true → ∀ B' H', Gr B H B' H' → WSs X sts D σ H') (k2 : t = false → ∀ B' H', Gr B H B' H' → WSs X sts' D σ H') : WS X (.If c sts sts' pos) D σ H := ws_of (ps_if ptW pssW pssW) (h _ fun B' H' g => by
  cases t with
  | true => exact iteT (k1 rfl B' H' g)
  | false => exact iteF (k2 rfl B' H' g))
/-- xs[i] = e, where e is known at this heap alone -/
theorem ws_putA {l : Addr} {j : Nat} [Mono P] (he : XEat X e σ B H P) (ho : ∀ C, Same B C → XE X o σ C (Is (.ref l))) (hi : XI X i σ B n) (hl : H l = some (.lst xs)) (hj : ixN xs.length n = some j) (k : ∀ v B' H', Gr B H B' H' → P B' v → H' l = some (.lst xs) → D.nx σ (upd H' l (.lst (xs.set j v))))
    (hs : swapsWithSole [.Subscript o i spos] e pos.line X.env = pure false := by rfl) (hw : swappedStores [.Subscript o i spos] e X.env = pure none := by rfl)
    (ha : ∀ v, assign (.Subscript o i spos) X.env v = (do
      let ov ← holding [v] (eval o X.env)
      let iv ← holding [v, ov] (eval i X.env)
      standAt spos
      holding [v, ov, iv] (setItem ov iv v)
      release [v, ov, iv] []) := by intro _; rfl) : WS X (.Assign [.Subscript o i spos] e pos) D σ H := by
  refine ws_of (ps_asg peW (pg_sub peW peW set_list ha) hs hw) (he _ fun v B1 H1 g1 p1 => ?_)
  refine ho B1 g1.bb H1 g1.bh _ fun u B2 H2 g2 p2 => ?_
  obtain rfl : u = .ref l := p2
  refine hi.up (g1.bb.trans g2.bb) H2 g2.bh _ fun w B3 H3 g3 p3 => ?_
  have g := (g1.trans g2).trans g3
  exact ⟨l, xs, n, j, rfl, Dq.int_v p3, g.hh _ _ hl, hj, k v B3 H3 g (Mono.up (g2.bb.trans g3.bb) p1) (g.hh _ _ hl)⟩
/-- another own list is changed -/
theorem Acc.other {K : PySem.W.Frag} {G : Addr} {o : HO} (A : Acc K B0 H0 F ds B H) (h : H0 G = none) (hb : B G = none) (ne : F ≠ G) : Acc K B0 H0 F ds B (upd H G o) := by
  obtain ⟨acc, h1, h2⟩ := A.ex
  exact ⟨A.gr.mut h hb, A.lo, acc, by rw [upd_ne ne]; exact h1, h2⟩
variable {α β : Type} {l : List α} {enc : α → PyData} {g : α → Option β} {enc' : β → PyData}
theorem lc_readO (h : XI_ X tg iter σ B (l.map enc)) (g : α → Option β) (hz : l.length < sizeLine) (turn : LcTurn X tg elt ifs scope (own.map (·.2)) σ B l enc g enc') {H : Hp} (s : Same B H) {Q : VK}
    (k : ∀ F B' H', H F = none → Acc X.K B H F ((l.filterMap g).map enc') B' H' → Q (.ref F) H') :
    tLc (WI X tg iter) (fun v σ' H' Q' => ∀ XB, Blk X scope XB → WG XB tg v σ' H' Q')
      (fun σ' H' Q' => ∀ XB, Blk X scope XB → ∀ (pins : List (Addr × Obj)) (s : Shared), Inv XB pins σ' H' s → wpAny (model XB.prog XB.w) XB.A (forIn ifs true fun c r => if r = true then do let ok ← isTrue c XB.env (eval c XB.env); pure (ForInStep.yield ok) else pure (ForInStep.yield r)) (TP XB pins σ' Q') XB.xe s)
      (fun σ' H' Q' => ∀ XB, Blk X scope XB → WE XB elt σ' H' Q') (own.map (·.2)) σ H Q := by
  refine h H s _ fun J B1 H1 g1 w D hD => ?_
  have hB1 : B1 D = none := g1.bh.free hD
  have el : (l.map enc).length = l.length := List.length_map ..
  refine ⟨fun i m H' => m = l.length - i ∧ i ≤ l.length ∧ ∃ B', Acc X.K B1 H1 D (((l.take i).filterMap g).map enc') B' H', ⟨l.length, by simp, Nat.zero_le _, B1, .new g1.bh hD .nil⟩, ?_⟩
  rintro i m H' ⟨rfl, hi, B', ac⟩
  by_cases hlt : i < l.length
  · refine .inr ⟨w.go i H' (ac.gr.bb.trans ac.bh) (by rw [el]; exact hlt), fun H2 => i + 1 ≤ l.length ∧ ∃ B', Acc X.K B1 H1 D (((l.take (i + 1)).filterMap g).map enc') B' H2, fun H2 hn => ⟨l.length - (i + 1), by omega, rfl, hn⟩, fun x H2 y => ?_⟩
    obtain ⟨d, Bx, e1, gx, px⟩ := w.yld i H' x H2 (ac.gr.bb.trans ac.bh) (by rw [el]; exact hlt) y
    obtain ⟨a, ea, rfl⟩ : ∃ a, l[i]? = some a ∧ d = enc a := by
      rw [List.getElem?_map] at e1
      obtain ⟨a, h1, h2⟩ := Option.map_eq_some_iff.mp e1
      exact ⟨a, h1, h2.symm⟩
    have gu := gx.wide ac.gr.bb ac.bh
    have ac2 := ac.step gu
    obtain ⟨σ2, ew, q⟩ := turn i a x (uni Bx B') ea ((g1.bb.trans ac.gr.bb).trans gu.bb) (Dq.up uni_l _ _ px)
    have etk := take_fm (f := g) ea
    refine fun XB hb => (q XB hb).1 H2 gu.bh _ ⟨ew, fun XB2 hb2 => (q XB2 hb2).2.1 H2 gu.bh _ fun B3 H3 g3 => ?_⟩
    have ac3 := ac2.step g3
    cases hf : g a with
    | none =>
      rw [hf, List.append_nil] at etk
      exact iteF ⟨hlt, B3, by rw [etk]; exact ac3⟩
    | some r =>
      rw [hf] at etk
      refine iteT fun XB3 hb3 => (((q XB3 hb3).2.2 r hf).up g3.bb) H3 g3.bh _ fun v B4 H4 g5 p5 => ?_
      have ac4 := ac3.step g5
      obtain ⟨acc, hacc, rel⟩ := ac4.ex
      refine ⟨acc, hacc, ?_, hlt, B4, ?_⟩
      · rw [rel.length, List.length_map]
        have l1 : ((l.take i).filterMap g).length ≤ (l.take i).length := List.length_filterMap_le ..
        rw [List.length_take] at l1
        omega
      · rw [etk, List.map_append]
        exact ac4.put hD (rel.app (.one p5))
  · have e : i = l.length := by omega
    subst e
    refine .inl ⟨by have z := w.stop H' (ac.gr.bb.trans ac.bh); rw [el] at z; exact z, ?_⟩
    rw [List.take_of_length_le (Nat.le_refl _)] at ac
    obtain ⟨g2, lo, ex⟩ := ac
    exact k D B' H' (g1.hh.free hD) ⟨g1.trans g2, lo, ex⟩
/-- name = [..] on one row, the list one's own from now on -/
theorem ws_setLcO {y : Str} (j : Nat) (h : XI_ X tg iter σ B (l.map enc)) (g : α → Option β) (turn : LcTurn X tg elt ifs scope (own.map (·.2)) σ B l enc g enc') (s : Same B H) (k : ∀ F B' H', H F = none → Acc X.K B H F ((l.filterMap g).map enc') B' H' → D.nx (σ.set j (some (.ref F))) H') (hz : l.length < sizeLine)
    (hc : X.calm = true) (hN : X.N.Nodup) (ok : BlkOk X.N X.env.scope scope own) (hsw : swapsWith (.ListComp elt [⟨tg, iter, ifs, 0⟩] scope pos) (some (.Name y py)) spos.line X.env = pure true) (hy : X.N[j]? = some y := by rfl) (hyl : X.env.scope.names.lookup y = some .local := by rfl)
    (hs : ∀ x, foldedSetIterable iter X.env x = pure x := by intro _; rfl) : WS X (.Assign [.Name y py] (.ListComp elt [⟨tg, iter, ifs, 0⟩] scope pos) spos) D σ H :=
  ws_of (ps_setLc hc hN hy hyl hsw piW ok (fun s H C cl fp => ⟨fun pins st σ H' v u Q I r q => q _ ⟨s, H, C, cl, fp, rfl⟩ pins st u I r⟩) (fun s H C cl fp => ⟨fun pins st σ H' Q I q => q _ ⟨s, H, C, cl, fp, rfl⟩ pins st I⟩)
    (fun s H C cl fp => ⟨fun pins st σ H' Q I q => q _ ⟨s, H, C, cl, fp, rfl⟩ pins st I⟩) hs) (lc_readO h g hz turn s k)
end
end TW
/-! WL7: _law_draws. -/
namespace TW
open PySem PySem.Spec PyProof.Rows L2
def InK (d : Int) : Prop := 0 ≤ d ∧ d < 1000
/-- some draws -/
def IsDraws (K : PySem.W.Frag) (n : Nat) : Hp → V → Prop := fun B v => ∃ ds : List Int, ds.length = n ∧ (∀ d ∈ ds, InK d) ∧ Dq K B v (eInts ds)
instance {K : PySem.W.Frag} {n : Nat} : Mono (IsDraws K n) := ⟨fun s h => by
  obtain ⟨ds, a, b, c⟩ := h
  exact ⟨ds, a, b, Dq.up s _ _ c⟩⟩
theorem ink_mod (x : Int) : InK (x % 1000) := ⟨Int.emod_nonneg _ (by decide), Int.emod_lt_of_pos _ (by decide)⟩
section
variable {P : Program} {w : World} {K : PySem.W.Frag} {mg : Str → Option Value} {base : Heap}
def A54 (K : PySem.W.Frag) (y : List Int) (B : Hp) (vs : List V) : Prop := (y.length ≤ 1000) ∧ ∃ a, vs = [.ref a, .int 60] ∧ SqL K B a (y.map V.int)
/-- a walk over a list of ints, wherever it stands -/
theorem xi_script {X : Cx} {tg iter : Expr} {σ : L2.St} {B : Hp} {a : Addr} {ns : List Int} (h : XE X iter σ B (Is (.ref a))) (hq : SqL X.K B a (ns.map V.int)) : XI_ X tg iter σ B (ns.map PyData.int) := fun H s R k => by
  refine wi_of (pi_list peW) (h H s _ fun v B1 H1 g1 p1 => ?_)
  obtain rfl : v = .ref a := p1
  have hq1 := Same.seq g1.bb hq
  refine ⟨a, rfl, ⟨_, Same.seq g1.bh hq1⟩, k _ B1 H1 g1 ⟨fun i H2 s2 hi => ?_, fun H2 s2 => ⟨_, Same.seq s2 hq1, by rw [List.length_map, List.length_map]; exact Nat.le_refl _⟩, fun i H2 x H3 s2 hi y => ?_⟩⟩
  · rw [List.length_map] at hi
    exact ⟨_, .int ns[i], Same.seq s2 hq1, by simp [hi]⟩
  · obtain ⟨rfl, y⟩ := y
    have y := y _ (Same.seq s2 hq1)
    rw [List.getElem?_map] at y
    obtain ⟨n, hn, rfl⟩ := Option.map_eq_some_iff.mp y
    exact ⟨.int n, B1, by rw [List.getElem?_map, hn]; rfl, .rfl s2, .int _⟩
theorem dn54 (T : Txt K mg) : Dn P w K mg base CX0 1 "_law_draws" ["_law_script", "_law_count"] (SpP (A54 K) fun y => IsDraws K 60) :=
  dn_of T.f54 sc54 (fun _ _ _ _ _ _ us hl => match us, hl with | [_, _], _ => rfl) (fun y B vs h => by obtain ⟨_, a, rfl, _⟩ := h; rfl) fun f cdv A0 outer s H vs E xs B Q hr sb ha q => by
    obtain ⟨hn, a, rfl, r1⟩ := ha
    change xs.length ≤ 1000 at hn
    generalize hv1 : V.ref a = v1
    refine ws_cons (ws_setLcO (l := xs) (enc := PyData.int) (enc' := PyData.int) (own := o54_0) 2 (xi_script (x_var 0 rfl hv1.symm) r1) (fun x => some x) ?_ sb (fun F B1 H1 hF a1 => ?_) (by rw [line_big]; omega) rfl sc54.nd bk54_0 rfl)
    · intro i t v B' ea sb' hd
      apply lc_map (f := fun x : Int => x) (a := t) (enc' := PyData.int)
      · rintro XB ⟨_, _, _, _, _, rfl⟩
        exact ⟨xg_name 8 sc54.nd, x_var 8 rfl hd⟩
      · rfl
    · rw [fm_map, List.map_id'] at a1
      refine ws_cons (ws_newL 3 xd_nil a1.bh (fun G vs B2 H2 g2 p2 hG => ?_) (hN := sc54.nd))
      obtain rfl := inv0 p2
      have a2 := a1.step g2
      have hFG : F ≠ G := by
        rintro rfl
        obtain ⟨acc, h1, _⟩ := a2.ex
        rw [h1] at hG
        cases hG
      have g12 := a2.gr
      have hG' : H G = none := g12.hh.free hG
      have gl : B2 G = none := g12.bh.free hG
      have a3 : Acc K B H F (xs.map .int) B2 (upd H2 G (.lst [])) := a2.other hG' gl hFG
      have b3 : Acc K B H G (([] : List Int).map .int) B2 (upd H2 G (.lst [])) := ⟨g12.mut hG' gl, gl, [], upd_same, .nil⟩
      refine ws_cons (ws_forB (l := List.range 60) (enc := fun (i : Nat) => PyData.int (i : Int)) rfl (xi_rangeN (n := 60) (m := 60) rfl T.b_range (x_var (v := V.int 60) 1 rfl (.int _)) rfl (by decide)) a3.bh fun B4 H4 g4 => ?_)
      refine ⟨fun i σ' B' H' => (∃ x4 x5 x6 x7 x8, σ' = [some v1, some (V.int 60), some (.ref F), some (.ref G), x4, x5, x6, x7, x8]) ∧ (∃ rs : List Int, rs.length = xs.length ∧ Acc K B H F (rs.map .int) B' H') ∧ (∃ ds : List Int, ds.length = i ∧ (∀ d ∈ ds, InK d) ∧ Acc K B H G (ds.map .int) B' H') ∧ Same B4 B',
        ⟨⟨_, _, _, _, _, rfl⟩, ⟨xs, rfl, a3.step g4⟩, ⟨[], rfl, fun d hd => (nomatch hd), b3.step g4⟩, .refl _⟩, fun i σ' B' H' h => ⟨h.2.2.2, by obtain ⟨_, ⟨rs, _, a⟩, _⟩ := h; exact a.bh⟩, ?_, ?_⟩
      · rintro i n v σ' B' H' B5 H5 ea ⟨⟨x4, x5, x6, x7, x8, rfl⟩, ⟨rs, hrs, a⟩, ⟨ds, hds, hin, b⟩, s4⟩ g5 dv
        obtain ⟨hi, rfl⟩ : i < 60 ∧ i = n := by
          obtain ⟨h2, h3⟩ := List.getElem?_eq_some_iff.mp ea
          rw [List.length_range] at h2
          rw [List.getElem_range] at h3
          exact ⟨h2, h3⟩
        have a5 := a.step g5
        have b5 := b.step g5
        refine ⟨_, xg_name 4 sc54.nd, ?_⟩
        refine ws_cons (ws_set (P := DD K (.int 0)) 5 x_int a5.bh (fun zv B6 H6 g6 p6 => ?_) (hN := sc54.nd))
        obtain rfl := Dq.int_v p6
        have a6 := a5.step g6
        have b6 := b5.step g6
        have dv6 := Dq.up g6.bb _ _ dv
        obtain ⟨us, hus, ru⟩ := a6.ex
        obtain rfl := DqAll.ints_v ru
        have fz : ∀ {C : Hp}, Same (upd B6 F (.lst (rs.map V.int))) C → Dq K C (.ref F) (.list (rs.map .int)) := fun s => Dq.up s _ _ (.lst upd_same (dp_ints K _ rs))
        have sN : Same B6 (upd B6 F (.lst (rs.map V.int))) := same_new a6.lo
        have el : ((rs.map PyData.int).length : Int) = (rs.length : Int) := by rw [List.length_map]
        refine ws_cut (fun σ' H' => ∃ B' val x6 x7 x8, σ' = [some v1, some (V.int 60), some (.ref F), some (.ref G), some v, some (V.int val), x6, x7, x8] ∧ InK val ∧ (∃ rs' : List Int, rs'.length = xs.length ∧ Acc K B H F (rs'.map .int) B' H') ∧ Acc K B H G (ds.map .int) B' H' ∧ Same B6 B') ?_ ?_
        · refine ws_ifA (t := decide ((0 : Int) < ((rs.map PyData.int).length : Int))) (at_frozenLT (F := F) (xs := rs.map V.int) (xt_cmp c_gt (x_lenL rfl T.b_len (x_var 2 rfl (fz (.refl _)))) x_int) a6.bh hus a6.lo) (fun hc B7 H7 g7 => ?_) fun hc B7 H7 g7 => ?_
          · have hpos : (0 : Int) < (rs.length : Int) := by have := of_decide_eq_true hc; omega
            have a7 := a6.step g7
            have b7 := b6.step g7
            have dv7 := Dq.up g7.bb _ _ dv6
            obtain ⟨us7, hus7, ru7⟩ := a7.ex
            obtain rfl := DqAll.ints_v ru7
            have fz7 : ∀ {C : Hp}, Same (upd B7 F (.lst (rs.map V.int))) C → Dq K C (.ref F) (.list (rs.map .int)) := fun s => Dq.up s _ _ (.lst upd_same (dp_ints K _ rs))
            have sN7 : Same B7 (upd B7 F (.lst (rs.map V.int))) := same_new a7.lo
            refine ws_cons (ws_setA (P := DD K (.int ((i : Int) % (rs.length : Int)))) 6 (at_frozenL (F := F) (xs := rs.map V.int) (P := DD K (.int ((i : Int) % (rs.length : Int)))) (x_mod (j := (rs.length : Int)) (x_intI rfl T.b_int (x_var 4 rfl (Dq.up sN7 _ _ dv7))) (by rw [← el]; exact x_lenL rfl T.b_len (x_var 2 rfl (fz7 (.refl _)))) hpos) (fun _ _ p => int_drop p) a7.bh hus7 a7.lo) (fun av B8 H8 g8 p8 => ?_) sc54.nd)
            obtain rfl := Dq.int_v p8
            have hm := emod_in (n := rs.length) (i : Int) (by omega)
            generalize hat : (i : Int) % (rs.length : Int) = at' at hm ⊢
            have a8 := a7.step g8
            have b8 := b7.step g8
            have dv8 := Dq.up g8.bb _ _ dv7
            obtain ⟨us8, hus8, ru8⟩ := a8.ex
            obtain rfl := DqAll.ints_v ru8
            have fz8 : ∀ {C : Hp}, Same (upd B8 F (.lst (rs.map V.int))) C → Dq K C (.ref F) (.list (rs.map .int)) := fun s => Dq.up s _ _ (.lst upd_same (dp_ints K _ rs))
            have hix : atI (rs.map PyData.int) at' = some (.int (rs.getD at'.toNat 0)) := atI_map hm.1 (by omega)
            generalize hx : rs.getD at'.toNat 0 = x at hix
            refine ws_one (ws_ifA (t := decide ((10 : Int) ^ (18 : Int).toNat ≤ x)) (at_frozenLT (F := F) (xs := rs.map V.int) (xt_cmp c_ge (x_ixL (x_var 2 rfl (fz8 (.refl _))) (x_var (v := V.int at') 6 rfl (.int _)) hix) (x_pow x_int x_int ⟨by decide, by decide, by decide⟩)) a8.bh hus8 a8.lo) (fun hc2 B9 H9 g9 => ?_) fun hc2 B9 H9 g9 => ?_)
            · have a9 := a8.step g9
              have b9 := b8.step g9
              obtain ⟨us9, hus9, ru9⟩ := a9.ex
              obtain rfl := DqAll.ints_v ru9
              have fz9 : ∀ {C : Hp}, Same (upd B9 F (.lst (rs.map V.int))) C → Dq K C (.ref F) (.list (rs.map .int)) := fun s => Dq.up s _ _ (.lst upd_same (dp_ints K _ rs))
              refine ws_cons (ws_setA (P := DD K (.int (x % 1000))) 5 (at_frozenL (F := F) (xs := rs.map V.int) (P := DD K (.int (x % 1000))) (x_mod (x_intI rfl T.b_int (x_ixL (x_var 2 rfl (fz9 (.refl _))) (x_var (v := V.int at') 6 rfl (.int _)) hix)) x_int (by decide)) (fun _ _ p => int_drop p) a9.bh hus9 a9.lo) (fun wv B10 H10 g10 p10 => ?_) sc54.nd)
              obtain rfl := Dq.int_v p10
              have a10 := a9.step g10
              have b10 := b9.step g10
              obtain ⟨us10, hus10, ru10⟩ := a10.ex
              obtain rfl := DqAll.ints_v ru10
              have fz10 : ∀ {C : Hp}, Same (upd B10 F (.lst (rs.map V.int))) C → Dq K C (.ref F) (.list (rs.map .int)) := fun s => Dq.up s _ _ (.lst upd_same (dp_ints K _ rs))
              refine ws_one (ws_putA (l := F) (xs := rs.map V.int) (n := at') (j := at'.toNat) (P := DD K (.int (x / 1000))) (at_frozenL (F := F) (xs := rs.map V.int) (P := DD K (.int (x / 1000))) (x_fdiv (x_ixL (x_var 2 rfl (fz10 (.refl _))) (x_var (v := V.int at') 6 rfl (.int _)) hix) x_int ⟨by decide, by decide⟩) (fun _ _ p => int_drop p) a10.bh hus10 a10.lo) (fun C _ => x_var 2 rfl rfl) (x_var (v := V.int at') 6 rfl (.int _)) hus10 ?_ fun uv B11 H11 g11 p11 hus11 => ?_)
              · unfold ixN
                rw [List.length_map, if_pos hm.1, if_pos (by omega)]
              · obtain rfl := Dq.int_v p11
                have a11 := a10.step g11
                have b11 := b10.step g11
                refine ⟨B11, x % 1000, _, _, _, rfl, ink_mod _, ⟨rs.set at'.toNat (x / 1000), by rw [List.length_set]; exact hrs, ?_⟩, b11.other hF a11.lo hFG.symm, (((g7.bb.trans g8.bb).trans g9.bb).trans g10.bb).trans g11.bb⟩
                have e1 : (rs.map V.int).set at'.toNat (.int (x / 1000)) = (rs.set at'.toNat (x / 1000)).map V.int := (List.map_set ..).symm
                rw [e1]
                exact a11.put hF (dp_ints K _ _)
            · have a9 := a8.step g9
              have b9 := b8.step g9
              have dv9 := Dq.up g9.bb _ _ dv8
              obtain ⟨us9, hus9, ru9⟩ := a9.ex
              obtain rfl := DqAll.ints_v ru9
              have sN9 : Same B9 (upd B9 F (.lst (rs.map V.int))) := same_new a9.lo
              have fz9 : ∀ {C : Hp}, Same (upd B9 F (.lst (rs.map V.int))) C → Dq K C (.ref F) (.list (rs.map .int)) := fun s => Dq.up s _ _ (.lst upd_same (dp_ints K _ rs))
              refine ws_cons (ws_setA (P := DD K (.int ((x * 48271 + (i : Int) * 69621 + 11) % 2147483647))) 7 (at_frozenL (F := F) (xs := rs.map V.int) (P := DD K (.int ((x * 48271 + (i : Int) * 69621 + 11) % 2147483647))) (x_mod (x_intI rfl T.b_int (x_add (x_add (x_mul (x_ixL (x_var 2 rfl (fz9 (.refl _))) (x_var (v := V.int at') 6 rfl (.int _)) hix) x_int (.inr ⟨by decide, by decide⟩)) (x_mul (x_var 4 rfl (Dq.up sN9 _ _ dv9)) x_int (.inr ⟨by decide, by decide⟩))) x_int)) x_int (by decide)) (fun _ _ p => int_drop p) a9.bh hus9 a9.lo) (fun wv B10 H10 g10 p10 => ?_) sc54.nd)
              obtain rfl := Dq.int_v p10
              have a10 := a9.step g10
              have b10 := b9.step g10
              generalize (x * 48271 + (i : Int) * 69621 + 11) % 2147483647 = y1
              refine ws_cons (ws_set (P := DD K (.int ((y1 * 16807 + at') % 2147483629))) 7 (x_mod (x_intI rfl T.b_int (x_add (x_mul (x_var (v := V.int y1) 7 rfl (.int _)) x_int (.inr ⟨by decide, by decide⟩)) (x_var (v := V.int at') 6 rfl (.int _)))) x_int (by decide)) a10.bh (fun wv B11 H11 g11 p11 => ?_) (hN := sc54.nd))
              obtain rfl := Dq.int_v p11
              have a11 := a10.step g11
              have b11 := b10.step g11
              generalize (y1 * 16807 + at') % 2147483629 = y2
              refine ws_one (ws_set (P := DD K (.int (y2 / 7 % 1000))) 5 (x_mod (x_intI rfl T.b_int (x_fdiv (x_var (v := V.int y2) 7 rfl (.int _)) x_int ⟨by decide, by decide⟩)) x_int (by decide)) a11.bh (fun wv B12 H12 g12 p12 => ?_) (hN := sc54.nd))
              obtain rfl := Dq.int_v p12
              exact ⟨B12, y2 / 7 % 1000, _, _, _, rfl, ink_mod _, ⟨rs, hrs, a11.step g12⟩, b11.step g12, ((((g7.bb.trans g8.bb).trans g9.bb).trans g10.bb).trans g11.bb).trans g12.bb⟩
          · exact ws_nil ⟨B7, 0, _, _, _, rfl, ⟨by decide, by decide⟩, ⟨rs, hrs, a6.step g7⟩, b6.step g7, g7.bb⟩
        · rintro σ' H' ⟨B7, val, x6, x7, x8, rfl, hval, ⟨rs', hrs', a7⟩, b7, s67⟩
          obtain ⟨acc, hacc, racc⟩ := b7.ex
          have eds : acc.length = ds.length := by rw [racc.length, List.length_map]
          refine ws_one (ws_app (l := G) (xs := acc) (P := DD K (.int val)) (fun C _ => x_var 3 rfl rfl) (x_var (v := V.int val) 5 rfl (.int _)) b7.bh hacc (by rw [eds, line_big]; omega) fun wv B8 H8 g8 p8 hacc8 => ?_)
          obtain rfl := Dq.int_v p8
          have a8 := a7.step g8
          have b8 := b7.step g8
          refine ⟨B8, ⟨_, _, _, _, _, rfl⟩, ⟨rs', hrs', a8.other hG' b8.lo hFG⟩, ⟨ds ++ [val], by rw [List.length_append, hds]; rfl, fun d hd => ?_, ?_⟩, (((s4.trans g5.bb).trans g6.bb).trans s67).trans g8.bb⟩
          · rcases List.mem_append.mp hd with hd | hd
            · exact hin d hd
            · rw [List.mem_singleton.mp hd]
              exact hval
          · rw [List.map_append]
            exact b8.put hG' ((DqAll.up g8.bb _ _ racc).app (.one (.int _)))
      · rintro σ' B' H' ⟨⟨x4, x5, x6, x7, x8, rfl⟩, _, ⟨ds, hds, hin, b⟩, s4⟩
        rw [List.length_range] at hds
        obtain ⟨B9, g9, p9, _⟩ := b.done hG'
        exact ws_one (ws_ret (P := IsDraws K 60) (x_var 3 rfl ⟨ds, hds, hin, p9⟩) g9.bh fun v B5 H5 g5 p5 => q v B5 H5 (g9.trans g5) p5)
end
end TW
/-! WH16: len(x) of an instance with its own __len__. -/
namespace TW
open PySem PySem.Spec PySem.Calls PyProof.Rows L2
section
variable {X : Cx} {C : Addr} {k : Nat} {α : Type} {A : α → Hp → List V → Prop} {R : α → Hp → V → Prop} {e : Expr} {σ : L2.St} {B H : Hp} {pp pos : Pos} {P1 : Hp → V → Prop} {n : Int}
theorem call_lenOwn (y : α) (G : MtOk X.prog X.w X.K X.mg X.base CX0 k C "__len__" ["self"] (SpP A R)) (hr : Room (k + 1) X.A) (hn : 0 ≤ n ∧ n < 2 ^ 63) (hR : ∀ B' v, R y B' v → v = .int n) :
    CallR X (.builtin "len") (fun vs H Q => ∃ a dx fs B, vs = [.ref a] ∧ H a = some (.ins C dx fs) ∧ Same B H ∧ A y B [.ref a] ∧ ∀ B' H', Gr B H B' H' → Q (.int n) H') := by
  intro pins s σ H vs us Q I r h
  obtain ⟨a, dx, fs, B, rfl, ha, sB, hA, q⟩ := h
  obtain ⟨f, fd, FN, hm, hb⟩ := G.ex
  have r2 := r
  cases r with
  | cons r1 rr =>
    cases rr
    rename_i u
    obtain rfl : u = Value.ref a := r1
    obtain ⟨mA, J, _⟩ := ins_get I.hok ha
    obtain ⟨od, J, _⟩ := J.look
    have sb : Sub X k X.A.in1 := Sub.in1 ⟨hr, rfl⟩
    refine call_function_entry kind_len plain_len entry_len (args_len1 _) ?_
    unfold Builtin.«len»
    refine wpAny_bind (m := oneArg "len" _) (wpAny_pure ?_)
    refine wpAny_bind (PySem.W.special_fn I.kIn J hm.at_ (beq_iff_eq.mp hm.fn) ?_)
    have e0 : Env0 X.prog X.w X.K X.mg X.base X.A.in1 X.stack s H := by
      have e := I.env0
      exact ⟨by rw [sb.fr]; exact e.frames, e.mod, e.bs, e.bsz, e.funs, e.frf, e.hok, e.bare⟩
    have hsp : SpP A R [.ref a] H (fun v H' => v = .int n ∧ ∃ B', Gr B H B' H') E0 := ⟨y, B, sB, hA, fun v B' H' g p => ⟨hR B' v p, B', g⟩⟩
    have hl := FN.len _ _ _ _ hsp
    refine wpAny_call (codeAny_mono (FN.run X.A.in1 X.stack s H ⟨[.ref a], []⟩ [.ref a] [.ref a] _ E0 sb.room e0 (by
      have := hb s [.ref a] I.kIn (by simpa using hl)
      simpa using this) r2 hsp) fun rs s' hq => ?_)
    cases rs with
    | error e => exact (show False from hq).elim
    | ok fl =>
      cases fl with
      | ret u =>
        obtain ⟨v, H', I3, rv, ev, B', g⟩ := I.after hq
        subst ev
        obtain ⟨t, rfl⟩ := rv
        refine wpAny_bind (wpAny_holding (wpAny_pure ?_))
        refine wpAny_bind (wpAny_letGo ?_)
        show wpAny _ _ (if n < 0 then _ else _) _ _ _
        rw [if_neg (by omega)]
        show wpAny _ _ (if n ≥ 2 ^ 63 then _ else _) _ _ _
        rw [if_neg (by omega)]
        exact wpAny_bind (wpAny_mkInt (wpAny_pure ⟨_, rfl, .int n, H', I3.tok _, ⟨_, rfl⟩, q B' H' g⟩))
      | next => exact False.elim hq
      | brk => exact False.elim hq
      | cont => exact False.elim hq
theorem x_lenOwn [Mono P1] (y : α) (G : MtOk X.prog X.w X.K X.mg X.base CX0 k C "__len__" ["self"] (SpP A R)) (hr : Room (k + 1) X.A) (hn : 0 ≤ n ∧ n < 2 ^ 63) (hR : ∀ B' v, R y B' v → v = .int n) (hg : Gl X "len") (hm : X.mg "len" = none) (ha : XE X e σ B P1)
    (hi : ∀ C' v, Same B C' → P1 C' v → (∃ a dx fs, v = .ref a ∧ C' a = some (.ins C dx fs)) ∧ A y C' [v]) (hs1 : starEach [e] X.env = (false, eval e X.env) :: starEach [] X.env := by rfl) : XI X (.Call (.Name "len" pp) [e] [] pos) σ B n :=
  x_callB (P0 := PCons P1 PNil) (call_lenOwn y G hr hn hR) hg hm boot_len (xp_cons ha xp_nil hs1) (he := hs1) fun C' H vs bc s pv Q k => by
    obtain ⟨v, r, rfl, p1, rfl⟩ := pv
    obtain ⟨⟨a, dx, fs, rfl, h1⟩, hA⟩ := hi C' v bc p1
    exact ⟨a, dx, fs, C', rfl, s _ _ h1, s, hA, fun B' H' g => k _ B' H' g (.int _)⟩
end
end TW
/-! WH17: methods calm or hot; what stands now taken as frozen; try .. except x as n; a caught exception's field. -/
namespace TW
open PySem PySem.Spec PyProof.Rows L2
/-- a method's promise, calm and hot -/
structure MtC (P : Program) (w : World) (K : PySem.W.Frag) (mg : Str → Option Value) (base : Heap) (k : Nat) (C : Addr) (m : Str) (ps : List Str) (sp : Sp) : Prop where
  ex : ∃ f fd, FnOk P w K mg base CX0 k f fd ps sp ∧ L2H.FnH P w K mg base CX0 k f fd ps sp ∧ Meth K C m f ∧ Binds K fd ps []
section
variable {P : Program} {w : World} {K : PySem.W.Frag} {mg : Str → Option Value} {base : Heap}
theorem fn_ofMC {x qual : Str} {st : Stmt} {f C : Addr} {fd : FuncData} {m : Str} {N ps : List Str} {k : Nat} {α : Type} {A : α → Hp → List V → Prop} {R : α → Hp → V → Prop} (F : Fun K x qual st f fd) (S : FnScope N ps (defScope st)) (hm : Meth K C m f) (hb : Binds K fd ps []) (len : ∀ y B vs, A y B vs → vs.length = ps.length)
    (body : ∀ (f : Addr) (cdv : Value) (A0 : Around) (outer : List Env) (s : Shared) (H : Hp) (vs : List V) (E : XK) (b : Bool) (pn : List (Addr × Obj)) (y : α) (B : Hp) (Q : VK), CHR k (cxC P w K mg base N qual (defScope st) f cdv A0 outer s H E b pn) → Same B H → A y B vs → (∀ v B' H', Gr B H B' H' → R y B' v → Q v H') →
      WSs (cxC P w K mg base N qual (defScope st) f cdv A0 outer s H E b pn) (defBody st) { nx := fun _ H' => Q .non H', rt := Q } (start N vs) H) : MtC P w K mg base (k + 1) C m ps (SpP A R) := by
  have hlen : ∀ vs H Q E, SpP A R vs H Q E → vs.length = ps.length := fun vs H Q E h => by
    obtain ⟨y, B, _, ha, _⟩ := h
    exact len y B vs ha
  refine ⟨f, fd, F.ok S hlen (fun cdv A0 outer s H vs Q E hr h => ?_), ?_, hm, hb⟩
  · obtain ⟨y, B, sb, ha, q⟩ := h
    exact ⟨_, pssW, body f cdv A0 outer s H vs E true [] y B Q (.inl ⟨rfl, hr⟩) sb ha q⟩
  · obtain ⟨oc, od, kV, doc, pm, an, cdv, ct, osl, rfl, lk, hcd⟩ := F.ex
    refine L2H.fn_ofH lk hcd S hlen fun A0 outer s H vs Q E p hot hr h => ?_
    obtain ⟨y, B, sb, ha, q⟩ := h
    exact ⟨_, (pssW (X := (L2H.cxH CX0 P w K mg base N qual (defScope st) f cdv A0 outer s H E p).nox)).nox, body f cdv A0 outer s H vs E false [p] y B Q (.inr ⟨⟨p, hot, List.mem_singleton.mpr rfl⟩, hr⟩) sb ha q⟩
end
section
variable {X : Cx} {o e : Expr} {σ : L2.St} {B H : Hp} {P1 : Hp → V → Prop} {apos pos : Pos} {k : Nat} {C : Addr} {m : Str} {α : Type} {A : α → Hp → List V → Prop} {R : α → Hp → V → Prop} {pl : Sem Bool}
theorem pe_meth0H {f : Addr} {fd : FuncData} {sp : Sp} {ta : TE} (he : PE X o ta) (c : Cls X.K C) (hm : Meth X.K C m f) (F : L2H.FnH X.prog X.w X.K X.mg X.base CX0 k f fd ["self"] sp) (hr : L2H.RoomH k X.A) (hc : L2H.HotC X) (hb : Binds X.K fd ["self"] [])
    (ht : eval (.Call (.Attribute o m apos) [] [] pos) X.env = (do
      let ov ← eval o X.env
      standAt apos.atName
      let (f, first) ← holding [ov] (getMethod ov m pl)
      callWith pos f first (backTo pos (starEach [] X.env)) (backToKw pos (keywordEach [] X.env))) := by rfl) : PE X (.Call (.Attribute o m apos) [] [] pos) (L2H.tMethH C m sp (fun _ => E0) ta tNil) := by
  refine ⟨fun pins s σ H Q I h => PySem.W.methodCall_KW (pl := pl) (thn (he.run pins s σ H _ I h) fun u s1 ⟨x, H1, I1, rx, a, dx, fs, ex, ea, l, q⟩ => ?_) ht⟩
  subst ex
  obtain rfl : u = Value.ref a := rx
  refine getmeth_ok I1 ea c hm l ?_
  exact PySem.W.callWith_K0 (first := [.ref a]) I1.kIn hm.kp (L2H.run_fnH (E := fun _ => E0) (us := [.ref a]) (vs := [.ref a]) F hr hc hb (passAt0 (fun _ _ _ z => z) σ) I1 (.cons rfl .nil) q)
theorem x_meth0C (y : α) (G : MtC X.prog X.w X.K X.mg X.base k C m ["self"] (SpP A R)) (cl : Cls X.K C) (hr : CHR k X) (ho : XE X o σ B P1) (hi : ∀ C' v, Same B C' → P1 C' v → (∃ a dx fs, v = .ref a ∧ C' a = some (.ins C dx fs) ∧ fs.lookup m = none) ∧ A y C' [v])
    (ht : eval (.Call (.Attribute o m apos) [] [] pos) X.env = (do
      let ov ← eval o X.env
      standAt apos.atName
      let (f, first) ← holding [ov] (getMethod ov m pl)
      callWith pos f first (backTo pos (starEach [] X.env)) (backToKw pos (keywordEach [] X.env))) := by rfl) : XE X (.Call (.Attribute o m apos) [] [] pos) σ B (R y) := fun H s Q k' => by
  obtain ⟨f, fd, F, FH, hm, hb⟩ := G.ex
  rcases hr with ⟨hc, hr⟩ | ⟨hc, hr⟩
  · refine we_of (pe_meth0 (E := E0) (pl := pl) peW cl hm F hr hb .nil pass0 ht) (ho H s _ fun v B1 H1 g1 p1 => ?_)
    obtain ⟨⟨a, dx, fs, rfl, h1, h2⟩, hA⟩ := hi B1 v g1.bb p1
    exact ⟨a, dx, fs, rfl, g1.bh _ _ h1, h2, y, B1, g1.bh, hA, fun v B2 H2 g2 p2 => k' v B2 H2 (g1.trans g2) p2⟩
  · refine we_of (pe_meth0H (pl := pl) peW cl hm FH hr hc hb ht) (ho H s _ fun v B1 H1 g1 p1 => ?_)
    obtain ⟨⟨a, dx, fs, rfl, h1, h2⟩, hA⟩ := hi B1 v g1.bb p1
    exact ⟨a, dx, fs, rfl, g1.bh _ _ h1, h2, y, B1, g1.bh, hA, fun v B2 H2 g2 p2 => k' v B2 H2 (g1.trans g2) p2⟩
end
section
variable {P : Program} {w : World} {K : PySem.W.Frag} {mg : Str → Option Value} {base : Heap} {CS CC : Addr}
theorem mtc_state (C : TxtCon K mg CC) : MtC P w K mg base 1 CC "_state" ["self"] (SpP (ACon K CS CC) fun y => IsSt K CS y) := by
  obtain ⟨f, fd, hm, F⟩ := C.m_state
  refine fn_ofMC F sc52_1 hm (F.binds fun _ _ _ _ _ _ us hl => match us, hl with | [_], _ => rfl) (fun y B vs h => by obtain ⟨v, rfl, _⟩ := h; rfl) fun f cdv A0 outer s H vs E b pn y B Q hr sb ha q => ?_
  obtain ⟨v1, rfl, c, dx, sv, ev, n, rfl, h1, xs, es, u, h2, h3, h4, h5, h6, h7, h8⟩ := ha
  refine ws_one (ws_ret (P := IsSt K CS y) (XE.imp (P1 := Is u) (x_ixV (xs := xs) (i := (n : Int)) (x_fld (P1 := Is (.ref c)) (x_is (i := 0) rfl) C.cls (C.no _ (by decide)) fun C' v s p => ⟨c, dx, _, sv, p, s _ _ h1, rfl, Mono.up s h2⟩) (x_fld (P1 := Is (.ref c)) (x_is (i := 0) rfl) C.cls (C.no _ (by decide)) fun C' v s p => ⟨c, dx, _, .int (n : Int), p, s _ _ h1, rfl, .int _⟩) ?_) fun C' v s p => ?_) sb q)
  · refine atI_nn (by omega) ?_
    rw [Int.toNat_natCast]
    exact h4
  · obtain rfl : v = u := p
    exact Mono.up (P := IsSt K CS y) s h5
theorem mtc_promises (C : TxtCon K mg CC) (S : TxtS K mg CS) : MtC P w K mg base 2 CC "promises" ["self"] (SpP (fun y B vs => (y.pr.length ≤ 100) ∧ ACon K CS CC y B vs) fun y => DD K (eProm y.pr)) := by
  obtain ⟨f, fd, hm, F⟩ := C.m_promises
  refine fn_ofMC F sc52_16 hm (F.binds fun _ _ _ _ _ _ us hl => match us, hl with | [_], _ => rfl) (fun y B vs h => by obtain ⟨_, v, rfl, _⟩ := h; rfl) fun f cdv A0 outer s H vs E b pn y B Q hr sb ha q => ?_
  obtain ⟨hn, v1, rfl, r1⟩ := ha
  refine ws_one (ws_ret (P := DD K (eProm y.pr)) ?_ sb q)
  have e : eProm y.pr = .list (y.pr.map eOpt ++ []) := by rw [List.append_nil]; rfl
  rw [e]
  exact x_lst (xd_star (x_stP S (x_meth0C (P1 := IsCon K CS CC y) y (mtc_state C) C.cls hr (x_var 0 rfl r1) fun C' v _ p => ⟨con_cell p "_state" (fun _ _ _ => rfl), v, rfl, p⟩)) (.inl rfl) xd_nil) (by rw [List.append_nil, List.length_map, line_big]; omega)
end
/-! ### what stands now, taken as frozen -/
section
variable {X : Cx} {e c : Expr} {σ : L2.St} {B H : Hp} {t : Bool} {d : Addr} {o : HO} {P : Hp → V → Prop} {n : Int}
theorem frz (s : Same B H) (h : H d = some o) : ∃ C, Same B C ∧ Same C H ∧ C d = some o ∧ ∀ B' H', Gr C H B' H' → ∃ B2, Gr B H B2 H' := by
  cases q : B d with
  | none => exact ⟨upd B d o, same_new q, same_upd s h, upd_same, fun B' H' g => ⟨_, g.unfreeze q⟩⟩
  | some u =>
    have : u = o := by
      have z := s d u q
      rw [h] at z
      exact (Option.some.inj z).symm
    exact ⟨B, .refl _, s, by rw [q, this], fun B' H' g => ⟨B', g⟩⟩
theorem at_frzT (s : Same B H) (h : H d = some o) (k : ∀ C, Same B C → Same C H → C d = some o → XTat X c σ C H t) : XTat X c σ B H t := fun Q q => by
  obtain ⟨C, s1, s2, hc, back⟩ := frz s h
  refine k C s1 s2 hc Q fun B' H' g => ?_
  obtain ⟨B2, g2⟩ := back B' H' g
  exact q B2 H' g2
theorem XT.at (h : XT X c σ B t) (s : Same B H) : XTat X c σ B H t := fun Q k => h H s Q k
theorem at_frzI (s : Same B H) (h : H d = some o) (k : ∀ C, Same B C → Same C H → C d = some o → XEat X e σ C H (DD X.K (.int n))) : XEat X e σ B H (DD X.K (.int n)) := fun Q q => by
  obtain ⟨C, s1, s2, hc, back⟩ := frz s h
  refine k C s1 s2 hc Q fun v B' H' g p => ?_
  obtain ⟨B2, g2⟩ := back B' H' g
  obtain rfl := Dq.int_v p
  exact q _ B2 H' g2 (.int _)
end
/-! ### try .. except x as n -/
section
variable {X : Cx} {x n : Str} {c : Value} {i : Nat} {body suite : List Stmt} {b₀ : Stmt} {np pos pos' : Pos} {Wout : WX} {D : Ends} {σ : L2.St} {H : Hp}
theorem takesN0 {X : Cx} : L2N.Takes X (fun _ _ _ _ => False) := fun _ _ x => by
  obtain ⟨_, _, _, _, _, _, _, _, _, _, _, _, _, _, _, _, z⟩ := x
  exact z.elim
/-- the suite, whatever the caught object is -/
def tSuite (X : Cx) (ss : List Stmt) : Addr → Value → Option Addr → TS := fun a cls d D σ H => ∀ (oe : Obj) (pn : List (Addr × Obj)), L2N.Zn cls d oe → (∃ vs, oe.data = .fields vs) → WSs (X.suite a ((a, oe) :: pn)) ss D σ H
theorem ws_try_as (hs : X.stack = X.env :: X.outer) (hf : X.env.frame = some X.env.locals) (hN : X.N.Nodup) (hi : X.N[i]? = some n) (hln : X.env.kindOf n = some .local) (hc : Names X x c) (tk : L2N.Takes X Wout)
    (h : ∀ (pn : List (Addr × Obj)) (xe : Value → Shared → Prop), L2N.Takes (X.tr pn xe) (wAs X.K c i (tSuite X (b₀ :: suite)) Wout D) → PassesOwn (model X.prog X.w) X.A X.env xe → WSs (X.tr pn xe) body D σ H) :
    WS X (.Try body [.ExceptHandler (some (.Name x np)) (some n) (b₀ :: suite) pos'] [] [] pos) D σ H :=
  ws_of (L2N.ps_try_as (tb := fun W D σ H => ∀ (pn : List (Addr × Obj)) (xe : Value → Shared → Prop), L2N.Takes (X.tr pn xe) W → PassesOwn (model X.prog X.w) X.A X.env xe → WSs (X.tr pn xe) body D σ H) (ts := tSuite X (b₀ :: suite)) hs hf hN hi hln hc tk
    (fun W pn xe tk hp => ⟨fun pins s σ H D I q => q pn xe tk hp pins s I⟩) (fun a oe cls d pn hz hd => ⟨fun pins s σ H D I q => q oe pn hz hd pins s I⟩)) h
theorem suite_hot {a : Addr} {oe : Obj} {cls : Value} {d : Option Addr} {pn : List (Addr × Obj)} {k : Nat} (hr : Room k X.A) (hz : L2N.Zn cls d oe) (hd : ∃ vs, oe.data = .fields vs) : CHR k (X.suite a ((a, oe) :: pn)) := by
  obtain ⟨vs, hd⟩ := hd
  exact .inr ⟨⟨(a, oe), ⟨rfl, vs, hd, hz.2.2 vs hd⟩, .head _⟩, ⟨hr.dp, hr.un⟩⟩
theorem x_xf {e : Expr} {B : Hp} {a C dd : Addr} {oe : Obj} {cls : Value} {pn : List (Addr × Obj)} {f : Str} {v : V} {d : PyData} {fs : List (Str × V)} (T : XfC X.K C) (hno : PySem.W.findIn X.K (.ref C) f = some none) (hz : L2N.Zn cls (some dd) oe) (hf : ∃ vs, oe.data = .fields vs) (hcl : cls = .ref C)
    (he : XE (X.suite a ((a, oe) :: pn)) e σ B (Is (.ref a))) (hB : B dd = some (.xd fs)) (hl : fs.lookup f = some v) (hv : Dq X.K B v d) (hb : attributeBase e f X.env (eval e X.env) = eval e X.env := by rfl) : XE (X.suite a ((a, oe) :: pn)) (.Attribute e f pos) σ B (DD X.K d) := fun H s Q k => by
  refine we_of (pe_xf T hno hz.zc hf peW hb) (he H s _ fun u B1 H1 g1 p1 => ?_)
  obtain rfl : u = .ref a := p1
  exact ⟨rfl, hcl, dd, fs, v, rfl, g1.bh _ _ (g1.bb _ _ hB), hl, k v B1 H1 g1 (Dq.up g1.bb _ _ hv)⟩
end
end TW
/-! WL8: _law_promised. -/
namespace TW
open PySem PySem.Spec PyProof.Rows L2
/-- all that is known of the text -/
structure AllT (P : Program) (K : PySem.W.Frag) (mg : Str → Option Value) (CS CC CN CL : Addr) : Prop where
  T : Txt K mg
  S : TxtS K mg CS
  C : TxtCon K mg CC
  NW : RaiseNW P K mg CN
  ne : CS ≠ CC
  cl : ∃ qual, ExT P K mg "Clash" qual (meth 10 0) CL
  noS : PySem.W.findIn K (.ref CL) "ships" = some none
  xf : XfC K CL
  exC : PySem.W.exmOne K (.ref CL) (.ref CL) = some true
  exN : PySem.W.exmOne K (.ref CN) (.ref CN) = some true
  mC : mg "Clash" = some (.ref CL)
  mN : mg "NoWay" = some (.ref CN)
/-- a draw promises, or clashes -/
def prStep (h : Harb) (ships : List Ship) (pr : Lat) (d : Int) : Lat :=
  if pr.getD (d % (ships.length : Int)).toNat none = none then (if prCl (conP h ships pr) (d % (ships.length : Int)).toNat (3 + d % 7) = none then putPr pr (d % (ships.length : Int)).toNat (3 + d % 7) else pr) else pr
def prOf (h : Harb) (ships : List Ship) (pr : Lat) (ds : List Int) : Lat := ds.foldl (prStep h ships) pr
theorem ConOk.step {h : Harb} {ships : List Ship} {pr : Lat} (c : ConOk h ships pr) (d : Int) : ConOk h ships (prStep h ships pr d) := by
  unfold prStep
  split
  · split
    · rename_i e
      exact c.put e
    · exact c
  · exact c
theorem ConOk.of {h : Harb} {ships : List Ship} : ∀ (ds : List Int) {pr : Lat}, ConOk h ships pr → ConOk h ships (prOf h ships pr ds)
  | [], _, c => c
  | d :: ds, _, c => ConOk.of ds (c.step d)
theorem prOf_take {h : Harb} {ships : List Ship} {pr : Lat} {ds : List Int} {i : Nat} {d : Int} (e : ds[i]? = some d) : prOf h ships pr (ds.take (i + 1)) = prStep h ships (prOf h ships pr (ds.take i)) d := take_foldl e
def SpProm (K : PySem.W.Frag) (CS CC : Addr) : Sp := fun vs H Q _ => ∃ (h : Harb) (ships : List Ship) (pr : Lat) (ds : List Int) (n : Nat) (B : Hp) (c dx : Addr) (v2 : V), ConOk h ships pr ∧ OwnCon K CS CC B (dropA H c) c dx (conP h ships pr) n B H ∧ vs = [.ref c, v2] ∧ Dq K B v2 (eInts ds) ∧ (∀ d ∈ ds, InK d) ∧ n + ds.length ≤ 50 ∧
  ∀ n' B' H', n' ≤ n + ds.length → OwnCon K CS CC B (dropA H c) c dx (conP h ships (prOf h ships pr ds)) n' B' H' → Q (.bl true) H'
section
variable {P : Program} {w : World} {K : PySem.W.Frag} {mg : Str → Option Value} {base : Heap} {CS CC CN CL : Addr}
theorem dn57 (L : AllT P K mg CS CC CN CL) : Dn P w K mg base CX0 11 "_law_promised" ["_law_console", "_law_draws_here"] (SpProm K CS CC) := by
  obtain ⟨f, fd, F, hm⟩ := L.T.f57.ex
  obtain ⟨T, S, C, NW, ne, ⟨qual, TC⟩, noS, xf, exC, exN, mC, mN⟩ := L
  refine ⟨f, fd, F.ok sc57 (fun vs H Q E h => ?_) (fun cdv A0 outer s H vs Q E hr h => ⟨_, pssW, ?_⟩), hm, F.kp, F.binds fun _ _ _ _ _ _ us hl => match us, hl with | [_, _], _ => rfl⟩
  · obtain ⟨_, _, _, _, _, _, _, _, _, _, _, rfl, _⟩ := h
    rfl
  · obtain ⟨hd, ships, pr, ds, n, B, c, dx, v2, co, ⟨sv0, ev0, a0, ck0⟩, rfl, r2, hds, hn, q⟩ := h
    have hda : (dropA H c) c = none := dropA_at _ _
    have hsn := co.wx.wd.sn
    have hs1 : 1 ≤ ships.length := by have := co.n12; omega
    refine ws_cons (ws_forB (l := ds) (enc := PyData.int) rfl (xi_list (x_var 1 rfl r2)) a0.bh fun B1 H1 g1 => ?_)
    refine ⟨fun i σ' B' H' => (∃ x2 x3 x4 x5, σ' = [some (.ref c), some v2, x2, x3, x4, x5]) ∧ (∃ n', n' ≤ n + i ∧ OwnCon K CS CC B (dropA H c) c dx (conP hd ships (prOf hd ships pr (ds.take i))) n' B' H') ∧ Same B1 B',
      ⟨⟨_, _, _, _, rfl⟩, ⟨n, Nat.le_refl _, sv0, ev0, a0.step g1, ck0.up g1.bb⟩, .refl _⟩, fun i σ' B' H' h => ⟨h.2.2, by obtain ⟨_, ⟨_, _, _, _, a, _⟩, _⟩ := h; exact a.bh⟩, ?_, ?_⟩
    · rintro i d v σ' B' H' B2 H2 ea ⟨⟨x2, x3, x4, x5, rfl⟩, ⟨n', hn', sv, ev, a, ck⟩, sB⟩ g2 dv
      obtain rfl := Dq.int_v dv
      have hlt : i < ds.length := (List.getElem?_eq_some_iff.mp ea).1
      have hd0 := hds d (List.mem_of_getElem? ea)
      have co' := ConOk.of (ds.take i) co
      have etk := prOf_take (h := hd) (ships := ships) (pr := pr) ea
      generalize prOf hd ships pr (ds.take i) = pr' at co' etk a ck ⊢
      have hpl := co'.pl
      have a2 := a.step g2
      have ck2 := ck.up g2.bb
      refine ⟨_, xg_name 2 sc57.nd, ?_⟩
      have hmod := emod_in (n := ships.length) d (by omega)
      obtain ⟨m, hm⟩ : ∃ m : Nat, d % (ships.length : Int) = (m : Int) := ⟨(d % (ships.length : Int)).toNat, by omega⟩
      have hmlt : m < ships.length := by omega
      have isC : ∀ {C' : Hp} {sv ev : V} {k : Nat} {B : Hp}, C' c = some (.ins CC dx (cF sv k ev)) → Same B C' → ConK K CS (conP hd ships pr') k sv ev B → IsCon K CS CC (conP hd ships pr') C' (.ref c) := fun h s ck => ⟨c, dx, _, _, _, rfl, h, ck.up s⟩
      refine ws_cons (ws_setA (P := DD K (.int (m : Int))) 3 (at_frzI a2.bh a2.at' fun C' s1 s2 hc => XE.at ?_ s2) (fun uv B3 H3 g3 p3 => ?_) sc57.nd)
      · rw [← hm]
        refine x_mod (x_intI rfl T.b_int (x_var (v := V.int d) 2 rfl (.int _))) (x_lenOwn (P1 := IsCon K CS CC (conP hd ships pr')) (conP hd ships pr') (mt_len T C S) (hr.mono (by decide)) ⟨by omega, by omega⟩ (fun B' v h => Dq.int_v h) rfl T.b_len (x_var 0 rfl (isC hc s1 ck2)) fun C'' v s p => ⟨?_, v, rfl, p⟩) (by omega)
        obtain ⟨c', dx', sv', ev', k, e, h1, _⟩ := p
        exact ⟨_, _, _, e, h1⟩
      · obtain rfl := Dq.int_v p3
        have a3 := a2.step g3
        have ck3 := ck2.up g3.bb
        have hix : atI (pr'.map eOpt) (m : Int) = some (eOpt (pr'.getD m none)) := atI_nat (by omega)
        have est : prStep hd ships pr' d = if pr'.getD m none = none then (if prCl (conP hd ships pr') m (3 + d % 7) = none then putPr pr' m (3 + d % 7) else pr') else pr' := by
          unfold prStep
          rw [hm, Int.toNat_natCast]
        refine ws_one (ws_ifA (t := (pr'.getD m none).isNone) (at_frzT a3.bh a3.at' fun C' s1 s2 hc => XT.at (xt_cmp c_isNO (x_ixL (x_meth0 (P1 := IsCon K CS CC (conP hd ships pr')) (conP hd ships pr') (mt_promises C S) C.cls (hr.mono (by decide)) (x_var 0 rfl (isC hc s1 ck3)) (fun C'' v _ p => ⟨con_cell p "promises" (fun _ _ _ => rfl), by show pr'.length ≤ 100; omega, v, rfl, p⟩)) (x_var (v := V.int (m : Int)) 3 rfl (.int _)) hix) x_non) s2) (fun hc B4 H4 g4 => ?_) fun hc B4 H4 g4 => ?_)
        · have a4 := a3.step g4
          have ck4 := ck3.up g4.bb
          have hnone : pr'.getD m none = none := by simpa using hc
          have hno : pr'[m]? = some none := by
            rw [List.getD_eq_getElem?_getD, List.getElem?_eq_getElem (by omega)] at hnone
            rw [List.getElem?_eq_getElem (by omega)]
            exact congrArg some hnone
          rw [if_pos hnone] at est
          have h7 : 0 ≤ d % 7 ∧ d % 7 < 7 := ⟨Int.emod_nonneg _ (by decide), Int.emod_lt_of_pos _ (by decide)⟩
          refine ws_one (ws_try_as (i := 4) rfl rfl sc57.nd rfl rfl (c := .ref CL) ⟨rfl, by decide, .inl mC⟩ takesN0 fun pn xe tk hp => ?_)
          refine ws_one (ws_of (ps_expr peW rfl) ?_)
          refine we_promise (n := n') (E := fun σ cls d H => wAs _ (.ref CL) 4 _ _ _ cls d σ H) (fun σ => L2N.passAt tk σ) (mt_promise T S C NW TC noS ne) C.cls (hr.mono (by decide)) (Con.of ⟨sv, ev, a4, ck4⟩) (x_var 0 rfl rfl) (x_var (v := V.int (m : Int)) 3 rfl (.int _)) (x_add x_int (x_mod (x_intI rfl T.b_int (x_var (v := V.int d) 2 rfl (.int _))) x_int (by decide))) (co'.prOk hmlt ⟨by omega, by omega⟩ hno) (by omega) (fun hcn v B5 H5 g5 cn => ?_) fun l hl dd v B5 H5 g5 cn dl hdd => ?_
          · obtain ⟨_, lo, sv5, ev5, h5, ck5⟩ := cn
            refine ⟨B5, ⟨_, _, _, _, rfl⟩, ⟨n' + 1, by omega, sv5, ev5, a4.own hda ⟨g5, lo, h5⟩, ?_⟩, ((sB.trans g2.bb).trans g3.bb).trans (g4.bb.trans g5.bb)⟩
            rw [etk, est, if_pos hcn]
            exact ck5
          · refine ⟨true, exC, fun _ a' _ oe pn' hz hf => ?_, fun h => (nomatch h)⟩
            obtain ⟨sB5, lo, sv5, ev5, h5, ck5⟩ := cn
            have chs := suite_hot (pn := pn') (a := a') (X := (cxOf CX0 P w K mg base N57 "_law_promised" (defScope (top 57)) f cdv A0 outer s H E).nox) (k := 10) hr hz hf
            have kept := clash_kept (hour := 3 + d % 7) (by omega) hl
            have hll : l.length ≤ 1 := by
              refine Nat.le_trans (clash_yes hl).1 (others_len ?_ ?_)
              · rw [prTo_len]
                show pr'.length = 1 ∨ pr'.length = 2
                rw [hpl]
                exact co'.n12
              · rw [prTo_len]
                show m < pr'.length
                omega
            have hall : (l.map fun x => (pr'.getD x.toNat none).isNone).any id = false := by
              rw [List.any_eq_false]
              intro b hb
              obtain ⟨x, hx, rfl⟩ := List.mem_map.mp hb
              obtain ⟨k, rfl, hk, t, ht⟩ := kept x hx
              rw [Int.toNat_natCast, List.getD_eq_getElem?_getD, ht]
              simp
            refine ws_one (ws_ifA (t := (l.map fun x => (pr'.getD x.toNat none).isNone).any id) (at_frzT sB5 h5 fun C1 s1 s2 hc1 => at_frzT s2 hdd fun C2 s3 s4 hc2 => XT.at (xt_v (x_anyC chs.ch rfl T.b_any ?_)) s4) (fun h => ?_) fun _ B6 H6 g6 => ?_)
            · have hcc := s3 _ _ hc1
              refine x_lcMR (l := l) (enc := PyData.int) (enc' := PyData.bool) (own := o57_0) (fun x => (pr'.getD x.toNat none).isNone) chs (xib_list (x_xf (C := CL) (dd := dd) (fs := [("ships", v)]) (v := v) xf noS hz hf rfl (x_var 4 rfl rfl) hc2 rfl (Dq.up (s1.trans s3) _ _ dl))) (fun j t v' B' ea' sb' hd' => ?_) (by rw [line_big]; omega) sc57.nd bk57_0
              obtain ⟨k, rfl, hk, _⟩ := kept t (List.mem_of_getElem? ea')
              have hix2 : atI (pr'.map eOpt) (k : Int) = some (eOpt (pr'.getD (k : Int).toNat none)) := by
                rw [Int.toNat_natCast]
                exact atI_nat hk
              apply lc_mapR (f := fun x : Int => (pr'.getD x.toNat none).isNone) (a := (k : Int)) (enc' := PyData.bool)
              · rintro XB ⟨hrB, ⟨_, _, _, _, _, rfl⟩ | ⟨_, _, _, _, _, rfl⟩⟩
                · exact ⟨xg_name 5 sc57.nd, x_cmp c_isNO (x_ixL (x_meth0C (P1 := IsCon K CS CC (conP hd ships pr')) (conP hd ships pr') (mtc_promises C S) C.cls (hrB.mono (by decide)) (x_var 0 rfl (isC (sb' _ _ hcc) ((s1.trans s3).trans sb') ck5)) (fun C'' v _ p => ⟨con_cell p "promises" (fun _ _ _ => rfl), by show pr'.length ≤ 100; omega, v, rfl, p⟩)) (x_var 5 rfl hd') hix2) x_non⟩
                · exact ⟨xg_name 5 sc57.nd, x_cmp c_isNO (x_ixL (x_meth0C (P1 := IsCon K CS CC (conP hd ships pr')) (conP hd ships pr') (mtc_promises C S) C.cls (hrB.mono (by decide)) (x_var 0 rfl (isC (sb' _ _ hcc) ((s1.trans s3).trans sb') ck5)) (fun C'' v _ p => ⟨con_cell p "promises" (fun _ _ _ => rfl), by show pr'.length ≤ 100; omega, v, rfl, p⟩)) (x_var 5 rfl hd') hix2) x_non⟩
              · rfl
            · rw [hall] at h
              cases h
            · have a5 : Cell B (dropA H c) c CC dx (cF sv5 n' ev5) B5 H5 := a4.own hda ⟨g5, lo, h5⟩
              refine ws_nil ⟨B6, ⟨_, _, _, _, rfl⟩, ⟨n', by omega, sv5, ev5, a5.step g6, ?_⟩, (((sB.trans g2.bb).trans g3.bb).trans (g4.bb.trans g5.bb)).trans g6.bb⟩
              rw [etk, est, if_neg (by
                show ¬ prCl (conP hd ships pr') m (3 + d % 7) = none
                rw [hl]
                exact fun z => nomatch z)]
              exact ck5.up g6.bb
        · have hne : ¬ pr'.getD m none = none := by
            intro z
            rw [z] at hc
            cases hc
          rw [if_neg hne] at est
          refine ws_nil ⟨B4, ⟨_, _, _, _, rfl⟩, ⟨n', by omega, sv, ev, a3.step g4, ?_⟩, ((sB.trans g2.bb).trans g3.bb).trans g4.bb⟩
          rw [etk, est]
          exact ck3.up g4.bb
    · rintro σ' B' H' ⟨⟨x2, x3, x4, x5, rfl⟩, ⟨n', hn', sv, ev, a, ck⟩, sB⟩
      rw [List.take_of_length_le (Nat.le_refl _)] at ck
      refine ws_one (ws_ret (P := DD K (.bool true)) x_bl a.bh fun v B5 H5 g5 p5 => ?_)
      obtain rfl := Dq.bl_v p5
      exact q n' B5 H5 hn' ⟨sv, ev, a.step g5, ck.up g5.bb⟩
end
end TW
/-! WH18: repr; a def called by the caller itself; the law at that call. -/
namespace TW
open PySem PySem.Spec PyProof.Rows L2
section
variable {X : Cx} {e : Expr} {σ : L2.St} {B H : Hp} {pp pos : Pos} {ds : List PyData}
theorem call_reprD (hgd : X.A.guards = some []) (hu : X.A.units + 64 < cLine) : CallR X (.builtin "repr") (fun vs H Q => ∃ v ds, vs = [v] ∧ Dq X.K H v (.list ds) ∧ (PyData.list ds).showable = true ∧ (PyData.list ds).hasDict = false ∧ (PyData.list ds).depth ≤ 60 ∧ (PyData.list ds).shown.length ≤ sizeLine ∧ Q (.str (PyData.list ds).shown) H) := by
  intro pins s σ H vs us Q I r h
  obtain ⟨v, ds, rfl, p, h1, h2, h3, h4, q⟩ := h
  obtain ⟨u, rfl, rx⟩ := vals1 r
  obtain ⟨as, rd⟩ := Dp.reads I (.list ds) v u (Dq.dp _ _ p) rx
  obtain ⟨l, xs, rfl, _, _⟩ := Dq.lst_v p
  obtain rfl : u = Value.ref l := rx
  exact repr_of_reads' rd h1 (fun z => by rw [h2] at z; cases z) hgd (by omega) (fun _ _ e => e) (fun h' u tk k => ⟨.str _, H, I.kept k, ⟨_, rfl⟩, q⟩) h4
theorem x_reprD (hgd : X.A.guards = some []) (hu : X.A.units + 64 < cLine) (h1 : (PyData.list ds).showable = true) (h2 : (PyData.list ds).hasDict = false) (h3 : (PyData.list ds).depth ≤ 60) (h4 : (PyData.list ds).shown.length ≤ sizeLine) (hg : Gl X "repr") (hm : X.mg "repr" = none) (ha : XE X e σ B (DD X.K (.list ds)))
    (hs1 : starEach [e] X.env = (false, eval e X.env) :: starEach [] X.env := by rfl) : XE X (.Call (.Name "repr" pp) [e] [] pos) σ B (DD X.K (.str (PyData.list ds).shown)) :=
  x_callB (call_reprD hgd hu) hg hm (by decide +kernel) (xd_cons ha xd_nil hs1) (he := hs1) fun C H vs _ s pv Q k => by
    obtain ⟨v1, rfl, p1⟩ := inv1 pv
    exact ⟨v1, ds, rfl, Dq.up s _ _ p1, h1, h2, h3, h4, k _ C H (.rfl s) (.str _)⟩
end
/-- the law's def at the caller's own call -/
def LawAt (P : Program) (w : World) (K : PySem.W.Frag) (mg : Str → Option Value) (fa : Addr) : Prop := ∀ (base : Heap) (s : Shared) (H : Hp) (a : Addr) (ns : List Int), K.In base → base.Ns mainGlobals mg → Env0 P w K mg base callerA [] s H → ns.length ≤ 63 → SqL K H a (ns.map V.int) →
  codeAny (model P w) callerA (.call (.ref fa) ⟨[.ref a], []⟩) (CR CX0 [] P w H s (fun v _ => v = .bl true) E0) s
section
variable {P : Program} {w : World} {K : PySem.W.Frag} {mg : Str → Option Value}
theorem law_at {f : Addr} {name qual x : Str} {st : Stmt} {fd : FuncData} {N : List Str} {k : Nat} (F : Fun K name qual st f fd) (S : FnScope N [x] (defScope st)) (hr : Room (k + 1) callerA)
    (hbind : Binds K fd [x] [])
    (body : ∀ (base : Heap) (cdv : Value) (s : Shared) (H : Hp) (a : Addr) (ns : List Int), K.In base → base.Ns mainGlobals mg → Room k (callerA.deeper (envOfC qual (defScope st) s.heap.objs.size f cdv)) → ns.length ≤ 63 → SqL K H a (ns.map V.int) →
      WSs (cxOf CX0 P w K mg base N qual (defScope st) f cdv callerA [] s H E0).nox (defBody st) { nx := fun _ _ => False, rt := fun v _ => v = .bl true } (start N [.ref a]) H) : LawAt P w K mg f := by
  intro base s H a ns hKb hns e0 hl hS
  obtain ⟨oc, od, kV, doc, pm, an, cdv, ct, osl, rfl, lk, hcd⟩ := F.ex
  have KX : K.In s.heap := e0.mod.kin.keeps fun b o e => (e0.bs b o e).1
  have lim := e0.mod.nolimit.keeps fun b o e => (e0.bs b o e).1
  refine codeAny_call_function hr.depth (KX _ _ lk) rfl S.co S.gen rfl (PySem.W.codeRec_of KX hcd) (hbind s [.ref a] KX rfl _ _ _ _ ?_)
  refine wpAny_newFunctionEnv_cells S.kind (fun ⟨n, v⟩ hy => ?_) fun env he s1 x => ?_
  · rcases S.par n (List.of_mem_zip hy).1 with q | q
    · exact .inl q
    · exact .inr ⟨q, PySem.W.cellsFrom_some _ _ _ (.inl q)⟩
  · subst he
    have I : L2.Inv (cxOf CX0 P w K mg base N qual (defScope st) f cdv callerA [] s H E0) [] (start N [.ref a]) H s1 := inv_start S hr.hd e0 rfl (.cons rfl .nil) x
    refine ⟨lim.keeps x.toInCall.keep, codeAny_func (wpAny_mono ((pssW (X := (cxOf CX0 P w K mg base N qual (defScope st) f cdv callerA [] s H E0).nox)).nox.run [] s1 _ H _ I (body base cdv s H a ns hKb hns (hr.deeper _) hl hS)) (fun fl s' hs => ?_) fun e s' hs => hs)⟩
    cases fl with
    | ret u =>
      obtain ⟨v, σ', H', J, rv, q⟩ := hs
      exact ⟨v, H', J.os, J.bare, J.base, J.hok, rv, q⟩
    | next =>
      obtain ⟨_, _, _, q⟩ := hs
      exact q.elim
    | brk =>
      obtain ⟨_, _, _, q⟩ := hs
      exact q.elim
    | cont =>
      obtain ⟨_, _, _, q⟩ := hs
      exact q.elim
theorem law_run {mb : Str → Option Value} {fa a : Addr} {s₁ : Shared} {vs : List Value} {ns : List Int}
    (KX : K.In s₁.heap) (hns : s₁.heap.Ns mainGlobals mg) (hb : s₁.heap.Ns builtinsNs mb) (hbb : ∀ x : Str, x ≠ "__name__" → mb x = bootBuiltins x) (hlim : s₁.heap.NoLimit) (hg : s₁.gens = #[])
    (ha : s₁.heap.get? a = some { cls := .type "list", data := .seq vs.toArray }) (hi : IntsAre vs ns) (hl : ns.length ≤ 63) (F : LawAt P w K mg fa) :
    codeAny (model P w) callerA (.call (.ref fa) ⟨[.ref a], []⟩) (fun r s' => r = .ok (.ret (.bool true)) ∧ OldK s₁.heap s'.heap ∧ s'.os = s₁.os ∧ AllBare s'.gens) s₁ := by
  have rv := vals_ints hi
  have hz : ns.length ≤ sizeLine := Nat.le_trans hl (by decide)
  have core : ∀ H : Hp, Only H → SqL K H a (ns.map V.int) → HOk P w H s₁.heap → (∀ b, H b ≠ none → b = a) → (H a ≠ none → K.lookup a = none) → codeAny (model P w) callerA (.call (.ref fa) ⟨[.ref a], []⟩) (fun r s' => r = .ok (.ret (.bool true)) ∧ OldK s₁.heap s'.heap ∧ s'.os = s₁.os ∧ AllBare s'.gens) s₁ := fun H hO hS hok hA hK => by
    have noH : ∀ {b : Addr}, b ≠ a → H b = none := fun {b} hb => Classical.byContradiction fun z => hb (hA b z)
    have nsK : ∀ {b : Addr} {m : Str → Option Value}, s₁.heap.Ns b m → (hidT s₁.heap H).Ns b m := fun {b m} ⟨o, es, ep, e, d, r⟩ => ⟨o, es, ep, hidT_get e (noH (by
      rintro rfl
      rw [ha] at e
      cases e
      have d' : Data.seq vs.toArray _ = Data.dict es ep := d
      cases d')), d, r⟩
    have hKb : K.In (hidT s₁.heap H) := fun b o e => hidT_get (KX b o e) (by
      by_cases hb : b = a
      · subst hb
        exact Classical.byContradiction fun z => by rw [hK z] at e; cases e
      · exact noH hb)
    have hM : Mod K mg (hidT s₁.heap H) := ⟨hKb, nsK hns, ⟨mb, nsK hb, hbb⟩, let ⟨mc, h1, h2⟩ := hlim; ⟨mc, nsK h1, h2⟩⟩
    refine codeAny_mono (F (hidT s₁.heap H) s₁ H a ns hKb (nsK hns) ⟨rfl, hM, fun b o e => of_hidT e, Nat.le_of_eq (hidT_size _ _), trivial, fun b hb => absurd (show b ∈ ([] : List Addr) from hb) (by simp), hok, .of_eq hg⟩ hl hS) fun r s' h => ?_
    rcases r with e | fl
    · exact (show False from h).elim
    · rcases fl with _ | _ | _ | u
      · exact False.elim h
      · exact False.elim h
      · exact False.elim h
      · obtain ⟨v, H', os, bare, un, hok', r', q⟩ := h
        obtain rfl : v = .bl true := q
        obtain rfl : u = Value.bool true := r'
        refine ⟨rfl, OldK.of_keep fun b o e => ?_, os, bare⟩
        rcases hO b with q | ⟨ob, xs, z⟩
        · exact un.keep b o e q (by intro z; exact absurd (show b ∈ ([] : List Addr) from z) (by simp)) (by simp)
        · have z2 := un.frzs b ob _ z
          have e1 := (hok b _ z).1
          rw [e] at e1
          cases e1
          exact (hok' b _ z2).1
  cases hk : K.lookup a with
  | some o =>
    have e := KX a o hk
    rw [ha] at e
    cases e
    exact core (fun _ => none) (fun _ => .inl rfl) (.inr ⟨_, vs.toArray, _, hk, rfl, rfl, rfl, by rw [List.size_toArray, hi.length]; exact hz, by simpa using rv⟩) (fun b u z => nomatch z) (fun b z => absurd rfl z) fun z => absurd rfl z
  | none =>
    have at_ : ∀ b, b ≠ a → (if b = a then some (HO.frz { cls := .type "list", data := .seq vs.toArray } (.lst (ns.map V.int))) else none) = none := fun b hb => if_neg hb
    refine core (fun b => if b = a then some (.frz { cls := .type "list", data := .seq vs.toArray } (.lst (ns.map V.int))) else none) (fun b => ?_) (.inl (.inr ⟨_, if_pos rfl⟩)) (fun b u z => ?_) (fun b z => Classical.byContradiction fun hb => z (at_ b hb)) fun _ => hk
    · by_cases hb : b = a
      · exact .inr ⟨_, _, if_pos hb⟩
      · exact .inl (at_ b hb)
    · by_cases hb : b = a
      · have z' := (if_pos hb).symm.trans z
        cases z'
        subst hb
        exact ⟨ha, by rw [List.length_map]; exact hz, vs, _, rv, ha⟩
      · exact nomatch (at_ b hb).symm.trans z
end
/-- a law's end, from LawAt -/
theorem walk_G {l : PySem.W.OpenLaw} {q : Program} {loose : List Str} {XP : (Str → Option Value) → Heap → Prop} {YP : World → Heap → Prop} {d : DefRec}
    (hn : l.most = some 63) (hdf : d.params.defaults = [])
    (F : ∀ (w : World) (mg : Str → Option Value) (fa : Addr) (h : Heap), YP w h → h.Ns mainGlobals mg → mg d.name = some (.ref fa) → ∃ K : PySem.W.Frag, K.In h ∧ LawAt l.prog w K mg fa) :
    PySem.W.WalkO q loose XP YP l.row.toRowW d [] (fun f vs => PySem.call f vs) := by
  refine Att.attach_call hn hdf fun w s₀ s₁ mg mb fa o pm cd doc a vs ns G Y ho hd hcd hmg hobj hints hlen hg => ?_
  obtain ⟨K, KX, hF⟩ := F w mg fa _ Y G.T.g hmg
  exact law_run KX G.T.g G.T.b G.T.builtins G.T.nolimit hg hobj hints hlen hF
end TW
/-! WH19: try .. except x; a console read while one's own; a comprehension over values; now; _law_promised called. -/
namespace TW
open PySem PySem.Spec PyProof.Rows L2
section
variable {X : Cx} {x : Str} {c : Value} {body suite : List Stmt} {b₀ : Stmt} {np pos pos' : Pos} {Wout : WX} {D : Ends} {σ : L2.St} {H : Hp}
theorem ws_try_only (hs : X.stack = X.env :: X.outer) (hf : X.env.frame = some X.env.locals) (hc : Names X x c) (tk : L2N.Takes X Wout)
    (h : ∀ (pn : List (Addr × Obj)) (xe : Value → Shared → Prop), L2N.Takes (X.tr pn xe) (wMany X.K Wout D [(c, tSuite X (b₀ :: suite))]) → PassesOwn (model X.prog X.w) X.A X.env xe → WSs (X.tr pn xe) body D σ H) :
    WS X (.Try body [.ExceptHandler (some (.Name x np)) none (b₀ :: suite) pos'] [] [] pos) D σ H :=
  ws_of (L2N.ps_try_many (l := [(c, tSuite X (b₀ :: suite))]) (tb := fun W D σ H => ∀ (pn : List (Addr × Obj)) (xe : Value → Shared → Prop), L2N.Takes (X.tr pn xe) W → PassesOwn (model X.prog X.w) X.A X.env xe → WSs (X.tr pn xe) body D σ H) hs hf tk
    (fun W pn xe tk hp => ⟨fun pins s σ H D I q => q pn xe tk hp pins s I⟩) (.cons hc (fun a oe cls d pn hz hd => ⟨fun pins s σ H D I q => q oe pn hz hd pins s I⟩) .nil)) h
end
/-! ### a console in one's hands, read -/
section
variable {K : PySem.W.Frag} {CS CC c dx : Addr} {y : StD} {n : Nat} {B H : Hp}
/-- the console taken as frozen; what is found is found without it too -/
theorem Con.frz (a : Con K CS CC c dx y n B H) : ∃ C, Same B C ∧ Same C H ∧ IsCon K CS CC y C (.ref c) ∧ ∀ B' H', Gr C H B' H' → ∃ B2, Gr B H B2 H' ∧ ∀ v d, Dq K B' v d → Dq K B2 v d := by
  obtain ⟨bh, lo, sv, ev, h, ck⟩ := a
  refine ⟨upd B c (.ins CC dx (cF sv n ev)), same_new lo, same_upd bh h, ⟨c, dx, sv, ev, n, rfl, upd_same, ck.up (same_new lo)⟩, fun B' H' g => ⟨_, g.unfreeze lo, fun v d p => dd_drop (g.bb c _ upd_same) p⟩⟩
theorem Con.at0 {X : Cx} {e : Expr} {σ : L2.St} {d : PyData} (a : Con X.K CS CC c dx y n B H) (h : ∀ C, Same B C → IsCon X.K CS CC y C (.ref c) → XE X e σ C (DD X.K d)) : XEat X e σ B H (DD X.K d) := fun Q k => by
  obtain ⟨C, s1, s2, ic, back⟩ := a.frz
  refine h C s1 ic H s2 Q fun v B' H' g p => ?_
  obtain ⟨B2, g2, tr⟩ := back B' H' g
  exact k v B2 H' g2 (tr v d p)
theorem Con.atT {X : Cx} {e : Expr} {σ : L2.St} {t : Bool} (a : Con X.K CS CC c dx y n B H) (h : ∀ C, Same B C → IsCon X.K CS CC y C (.ref c) → XT X e σ C t) : XTat X e σ B H t := fun Q k => by
  obtain ⟨C, s1, s2, ic, back⟩ := a.frz
  refine h C s1 ic H s2 Q fun B' H' g => ?_
  obtain ⟨B2, g2, _⟩ := back B' H' g
  exact k B2 H' g2
/-- the same, for what is not yet an expression's wish -/
theorem Con.isCon (a : Con K CS CC c dx y n B H) {C : Hp} (s : Same B C) (s2 : Same C H) : ∃ C2, Same C C2 ∧ Same C2 H ∧ IsCon K CS CC y C2 (.ref c) ∧ ∀ B' H', Gr C2 H B' H' → ∃ B2, Gr C H B2 H' ∧ ∀ v d, Dq K B' v d → Dq K B2 v d := by
  obtain ⟨bh, lo, sv, ev, h, ck⟩ := a
  cases q : C c with
  | none => exact Con.frz (n := n) ⟨s2, q, sv, ev, h, ck.up s⟩
  | some u =>
    have : u = .ins CC dx (cF sv n ev) := by
      have z := s2 c u q
      rw [h] at z
      exact (Option.some.inj z).symm
    exact ⟨C, .refl _, s2, ⟨c, dx, sv, ev, n, rfl, by rw [q, this], ck.up s⟩, fun B' H' g => ⟨B', g, fun _ _ p => p⟩⟩
end
/-! ### a comprehension over values -/
structure WalkV (J : It) (xs : List V) (B : Hp) : Prop where
  go : ∀ i H, Same B H → i < xs.length → J.go i H
  stop : ∀ H, Same B H → J.stop xs.length H
  yld : ∀ i H x H', Same B H → i < xs.length → J.yld i H x H' → xs[i]? = some x ∧ H' = H
def XV_ (X : Cx) (tg iter : Expr) (σ : L2.St) (B : Hp) (xs : List V) : Prop := ∀ H, Same B H → ∀ R : It → Hp → Prop, (∀ J B' H', Gr B H B' H' → WalkV J xs B' → R J H') → WI X tg iter σ H R
section
variable {X : Cx} {tg iter elt : Expr} {σ : L2.St} {B C H : Hp} {pos spos py : Pos} {scope : Scope} {own : List (Str × Nat)} {xs : List V} {D : Ends} {d : PyData}
theorem xv_list (h : XE X iter σ B (IsLs xs)) : XV_ X tg iter σ B xs := fun H s R k => by
  refine wi_of (pi_list peW) (h H s _ fun v B1 H1 g1 p1 => ?_)
  obtain ⟨l, rfl, h1⟩ := p1
  refine ⟨l, rfl, ⟨xs, .of (g1.bh _ _ h1)⟩, k _ B1 H1 g1 ⟨fun i H2 s2 hi => ⟨xs, xs[i], .of (s2 _ _ h1), by simp [hi]⟩, fun H2 s2 => ⟨xs, .of (s2 _ _ h1), Nat.le_refl _⟩, fun i H2 x H3 s2 hi y => ?_⟩⟩
  obtain ⟨rfl, y⟩ := y
  exact ⟨y xs (.of (s2 _ _ h1)), rfl⟩
/-- every item gives the datum d -/
theorem lc_readV (h : XV_ X tg iter σ B xs) (hz : xs.length < sizeLine)
    (turn : ∀ (i : Nat) (v : V) (B' : Hp), xs[i]? = some v → Same B B' → ∃ σ2, wipe σ2 (own.map (·.2)) = wipe σ (own.map (·.2)) ∧ ∀ XB, Blk X scope XB → XG XB tg v (wipe σ (own.map (·.2))) B' σ2 ∧ XE XB elt σ2 B' (DD X.K d))
    {H : Hp} (s : Same B H) {Q : VK} (k : ∀ v B' H', Gr B H B' H' → Dq X.K B' v (.list (xs.map fun _ => d)) → Q v H') :
    tLc (WI X tg iter) (fun v σ' H' Q' => ∀ XB, Blk X scope XB → WG XB tg v σ' H' Q')
      (fun σ' H' Q' => ∀ XB, Blk X scope XB → ∀ (pins : List (Addr × Obj)) (s : Shared), Inv XB pins σ' H' s → wpAny (model XB.prog XB.w) XB.A (forIn ([] : List Expr) true fun c r => if r = true then do let ok ← isTrue c XB.env (eval c XB.env); pure (ForInStep.yield ok) else pure (ForInStep.yield r)) (TP XB pins σ' Q') XB.xe s)
      (fun σ' H' Q' => ∀ XB, Blk X scope XB → WE XB elt σ' H' Q') (own.map (·.2)) σ H Q := by
  refine h H s _ fun J B1 H1 g1 w D hD => ?_
  refine ⟨fun i m H' => m = xs.length - i ∧ i ≤ xs.length ∧ ∃ B', Acc X.K B1 H1 D ((xs.take i).map fun _ => d) B' H', ⟨xs.length, by simp, Nat.zero_le _, B1, .new g1.bh hD .nil⟩, ?_⟩
  rintro i m H' ⟨rfl, hi, B', ac⟩
  have sb := ac.gr.bb.trans ac.bh
  by_cases hlt : i < xs.length
  · refine .inr ⟨w.go i H' sb hlt, fun H2 => i + 1 ≤ xs.length ∧ ∃ B', Acc X.K B1 H1 D ((xs.take (i + 1)).map fun _ => d) B' H2, fun H2 hn => ⟨xs.length - (i + 1), by omega, rfl, hn⟩, fun x H2 y => ?_⟩
    obtain ⟨ea, rfl⟩ := w.yld i H' x H2 sb hlt y
    obtain ⟨σ2, ew, q⟩ := turn i x B' ea (g1.bb.trans ac.gr.bb)
    refine fun XB hb => (q XB hb).1 H2 ac.bh _ ⟨ew, fun XB2 hb2 => ?_⟩
    refine xts_nil (B := B') H2 ac.bh _ fun B3 H3 g3 => ?_
    have ac3 := ac.step g3
    refine iteT fun XB3 hb3 => ((q XB3 hb3).2.up g3.bb) H3 g3.bh _ fun v B4 H4 g5 p5 => ?_
    have ac4 := ac3.step g5
    obtain ⟨acc, hacc, rel⟩ := ac4.ex
    refine ⟨acc, hacc, ?_, hlt, B4, ?_⟩
    · rw [rel.length, List.length_map, List.length_take]
      omega
    · rw [List.take_add_one, ea, List.map_append]
      exact ac4.put hD (rel.app (.one p5))
  · have e : i = xs.length := by omega
    subst e
    rw [List.take_of_length_le (Nat.le_refl _)] at ac
    obtain ⟨B3, g3, p3, _⟩ := ac.done hD
    exact .inl ⟨w.stop H' sb, k _ B3 H' (g1.trans g3) p3⟩
theorem ws_setLcV {y : Str} (j : Nat) (h : XV_ X tg iter σ B xs) (hz : xs.length < sizeLine)
    (turn : ∀ (i : Nat) (v : V) (B' : Hp), xs[i]? = some v → Same B B' → ∃ σ2, wipe σ2 (own.map (·.2)) = wipe σ (own.map (·.2)) ∧ ∀ XB, Blk X scope XB → XG XB tg v (wipe σ (own.map (·.2))) B' σ2 ∧ XE XB elt σ2 B' (DD X.K d))
    (s : Same B H) (k : ∀ v B' H', Gr B H B' H' → Dq X.K B' v (.list (xs.map fun _ => d)) → D.nx (σ.set j (some v)) H') (hc : X.calm = true) (hN : X.N.Nodup) (ok : BlkOk X.N X.env.scope scope own) (hsw : swapsWith (.ListComp elt [⟨tg, iter, [], 0⟩] scope pos) (some (.Name y py)) spos.line X.env = pure true) (hy : X.N[j]? = some y := by rfl) (hyl : X.env.scope.names.lookup y = some .local := by rfl)
    (hs : ∀ x, foldedSetIterable iter X.env x = pure x := by intro _; rfl) : WS X (.Assign [.Name y py] (.ListComp elt [⟨tg, iter, [], 0⟩] scope pos) spos) D σ H :=
  ws_of (ps_setLc hc hN hy hyl hsw piW ok (fun s H C cl fp => ⟨fun pins st σ H' v u Q I r q => q _ ⟨s, H, C, cl, fp, rfl⟩ pins st u I r⟩) (fun s H C cl fp => ⟨fun pins st σ H' Q I q => q _ ⟨s, H, C, cl, fp, rfl⟩ pins st I⟩)
    (fun s H C cl fp => ⟨fun pins st σ H' Q I q => q _ ⟨s, H, C, cl, fp, rfl⟩ pins st I⟩) hs) (lc_readV h hz turn s k)
/-- [a, b] of two names -/
theorem x_lst2 {a b : Expr} {u v : V} (h1 : XE X a σ B (Is u)) (h2 : XE X b σ B (Is v)) (hs1 : starEach [a, b] X.env = (false, eval a X.env) :: starEach [b] X.env := by rfl) (hs2 : starEach [b] X.env = (false, eval b X.env) :: starEach [] X.env := by rfl) : XE X (.List [a, b] pos) σ B (IsLs [u, v]) := fun H s Q k => by
  refine we_of (pe_lst paW) ((xp_cons h1 (xp_cons h2 xp_nil hs2) hs1) H s _ fun vs B1 H1 g1 p1 => ?_)
  obtain ⟨_, r, rfl, rfl, _, r2, rfl, rfl, rfl⟩ := p1
  exact ⟨by show 2 ≤ sizeLine; decide, fun p hp => k _ _ _ (g1.trans (.new g1.bh hp)) ⟨p, rfl, upd_same⟩⟩
end
/-! ### o.now -/
section
variable {X : Cx} {o e e2 : Expr} {σ : L2.St} {B H : Hp} {pos pp : Pos} {CS CC c dx : Addr} {y : StD} {n : Nat}
theorem x_now (G : NowOk X.prog X.w X.K X.mg X.base CS CC) (cl : Cls X.K CC) (hr : Room 3 X.A) (ho : XE X o σ B (IsCon X.K CS CC y)) (hb : attributeBase o "now" X.env (eval o X.env) = eval o X.env := by rfl) : XI X (.Attribute o "now" pos) σ B y.here.1 := fun H s Q k => by
  obtain ⟨p, f, fd, hp, F, bd⟩ := G.ex
  refine we_of (pe_prop (E := E0) peW cl hp F hr bd .nil pass0 hb) (ho H s _ fun v B1 H1 g1 p1 => ?_)
  obtain ⟨a, dx, fs, rfl, h1, _⟩ := con_cell p1 "" (fun _ _ _ => rfl)
  exact ⟨a, dx, fs, rfl, g1.bh _ _ h1, y, B1, g1.bh, ⟨_, rfl, p1⟩, fun v B2 H2 g2 p2 => k v B2 H2 (g1.trans g2) p2⟩
/-- _law_promised(a console, draws) -/
theorem we_prom {Q : VK} {h : Harb} {ships : List Ship} {pr : Lat} {ds : List Int} (G : Dn X.prog X.w X.K X.mg X.base CX0 11 "_law_promised" ["_law_console", "_law_draws_here"] (SpProm X.K CS CC)) (hr : Room 11 X.A) (hg : Gl X "_law_promised") (co : ConOk h ships pr) (a : Con X.K CS CC c dx (conP h ships pr) n B H)
    (h1 : XE X e σ B (Is (.ref c))) (h2 : XE X e2 σ B (DD X.K (eInts ds))) (hd : ∀ d ∈ ds, InK d) (hn : n + ds.length ≤ 50)
    (k : ∀ n' B' H', n' ≤ n + ds.length → Gr B (dropA H c) B' H' → Con X.K CS CC c dx (conP h ships (prOf h ships pr ds)) n' B' H' → Q (.bl true) H')
    (he : starEach [e, e2] X.env = (false, eval e X.env) :: starEach [e2] X.env := by rfl) (he2 : starEach [e2] X.env = (false, eval e2 X.env) :: starEach [] X.env := by rfl) (hpl : (backTo pos (starEach [e2] X.env)).any (·.1) = false := by rfl) : WE X (.Call (.Name "_law_promised" pp) [e, e2] [] pos) σ H Q := by
  obtain ⟨f, fd, F, hm, hk, hb⟩ := G.ex
  obtain ⟨sv, ev, ac, ck⟩ := a.own
  refine we_of (pe_call (E := E0) F hr hg hm hk hb .nil pass0 paW (by decide) he hpl) ?_
  refine (xp_cons (P := Is (.ref c)) h1 (xp_cons (P := DD X.K (eInts ds)) h2 xp_nil he2) he) H a.bh _ fun vs B1 H1 g1 p1 => ?_
  obtain ⟨_, r, rfl, rfl, v2, r2, rfl, q2, rfl⟩ := p1
  have a1 := ac.step g1
  refine ⟨h, ships, pr, ds, n, B1, c, dx, v2, co, ⟨sv, ev, a1.here, ck.up g1.bb⟩, rfl, q2, hd, hn, fun n' B' H' hn' oc => ?_⟩
  obtain ⟨sv', ev', a3, ck3⟩ := oc
  exact k n' B' H' hn' (a1.own (dropA_at _ _) a3).gr (Con.of ⟨sv', ev', a3, ck3⟩)
end
end TW
/-! WM8: the world of the draws is legal. -/
namespace TW
open PySem PySem.Spec PyProof.Rows
theorem dr_in {ds : List Int} (h : ∀ d ∈ ds, InK d) (i : Nat) : InK (dr ds i) := by
  unfold dr
  by_cases hi : i < ds.length
  · rw [List.getD_eq_getElem?_getD, List.getElem?_eq_getElem hi]
    exact h _ (List.getElem_mem hi)
  · rw [List.getD_eq_getElem?_getD, List.getElem?_eq_none (by omega)]
    exact ⟨by decide, by decide⟩
theorem md (x : Int) {m : Int} (h : 0 < m) : 0 ≤ x % m ∧ x % m < m := ⟨Int.emod_nonneg _ (by omega), Int.emod_lt_of_pos _ h⟩
structure SmallShip (s : Ship) : Prop where
  rd : 0 ≤ s.ready ∧ s.ready ≤ 2
  ln : 1 ≤ s.length ∧ s.length ≤ 6
  dt : 0 ≤ s.draught ∧ s.draught ≤ 6
  st : 1 ≤ s.stay ∧ s.stay ≤ 2
  tg : 0 ≤ s.tugs ∧ s.tugs ≤ 2
  se : 0 ≤ s.sea ∧ s.sea ≤ 4
  li : 0 ≤ s.lie ∧ s.lie ≤ 4
theorem small_ok (ds : List Int) : SmallShip (smallOf ds 0) := by
  have h0 := md (dr ds 0) (m := 3) (by decide)
  have h1 := md (dr ds 1) (m := 5) (by decide)
  have h2 := md (dr ds 2) (m := 7) (by decide)
  have h3 := md (dr ds 3) (m := 2) (by decide)
  have h4 := md (dr ds 4) (m := 3) (by decide)
  have h5 := md (dr ds 5) (m := 5) (by decide)
  have h6 := md (dr ds 6) (m := 5) (by decide)
  refine ⟨⟨?_, ?_⟩, ⟨?_, ?_⟩, ⟨?_, ?_⟩, ⟨?_, ?_⟩, ⟨?_, ?_⟩, ⟨?_, ?_⟩, ⟨?_, ?_⟩⟩ <;> (unfold smallOf; dsimp only)
  · omega
  · omega
  · split <;> omega
  · split <;> omega
  all_goals omega
theorem ships_small (ds : List Int) : ∀ s ∈ shipsOf ds, SmallShip s := fun s hs => by
  unfold shipsOf at hs
  obtain ⟨k, _, rfl⟩ := List.mem_map.mp hs
  exact small_ok _
theorem ships_len (ds : List Int) : (shipsOf ds).length = 1 ∨ (shipsOf ds).length = 2 := by
  have h := md (dr ds 10) (m := 2) (by decide)
  unfold shipsOf
  rw [List.length_map, List.length_range]
  omega
structure SmallHarb (h : Harb) : Prop where
  dn : 1 ≤ h.depths.length ∧ h.depths.length ≤ 3
  d : ∀ n ∈ h.depths, 0 ≤ n ∧ n ≤ 8
  bn : 1 ≤ h.berths.length ∧ h.berths.length ≤ 2
  b : ∀ n ∈ h.berths, 5 ≤ n ∧ n ≤ 6
  tg : 2 ≤ h.tugs ∧ h.tugs ≤ 4
  pi : 1 ≤ h.pilots ∧ h.pilots ≤ 2
  la : 6 ≤ h.last ∧ h.last ≤ 9
theorem harb_small (ds : List Int) : SmallHarb (harbOf ds) := by
  have h0 := md (dr ds 0) (m := 3) (by decide)
  have h6 := md (dr ds 6) (m := 2) (by decide)
  have h7 := md (dr ds 7) (m := 3) (by decide)
  have h8 := md (dr ds 8) (m := 2) (by decide)
  have lb : (berthsOf ds).length = (1 + dr ds 6 % 2).toNat := by unfold berthsOf; rw [List.length_map, List.length_range]
  have ld : (depthsOf ds).length = (dr ds 0 % 3).toNat + 1 := by unfold depthsOf; rw [List.length_cons, List.length_map, List.length_range]
  have h9 := md (dr ds 9) (m := 4 - 2 * (((berthsOf ds).length : Int) - 1)) (by omega)
  refine ⟨?_, fun n hn => ?_, ?_, fun n hn => ?_, ?_, ?_, ?_⟩
  · show 1 ≤ (depthsOf ds).length ∧ (depthsOf ds).length ≤ 3
    omega
  · change n ∈ depthsOf ds at hn
    unfold depthsOf at hn
    rcases List.mem_cons.mp hn with rfl | hn
    · decide
    · obtain ⟨k, _, rfl⟩ := List.mem_map.mp hn
      have := md (dr ds (1 + k)) (m := 7) (by decide)
      omega
  · show 1 ≤ (berthsOf ds).length ∧ (berthsOf ds).length ≤ 2
    omega
  · change n ∈ berthsOf ds at hn
    unfold berthsOf at hn
    obtain ⟨k, _, rfl⟩ := List.mem_map.mp hn
    have := md (dr ds (4 + k)) (m := 2) (by decide)
    omega
  · show 2 ≤ 2 + dr ds 7 % 3 ∧ 2 + dr ds 7 % 3 ≤ 4
    omega
  · show 1 ≤ 1 + dr ds 8 % 2 ∧ 1 + dr ds 8 % 2 ≤ 2
    omega
  · show 6 ≤ 6 + dr ds 9 % (4 - 2 * (((berthsOf ds).length : Int) - 1)) ∧ 6 + dr ds 9 % (4 - 2 * (((berthsOf ds).length : Int) - 1)) ≤ 9
    omega
section
variable {h : Harb} {ships : List Ship}
theorem world_wx (H : SmallHarb h) (S : ∀ s ∈ ships, SmallShip s) (n : ships.length = 1 ∨ ships.length = 2) : Wx h ships := by
  have h1 := H.dn
  have h2 := H.bn
  have h3 := H.la
  refine ⟨⟨by omega, h2.2, by omega, by omega, fun s hs => ?_, fun s hs => ?_⟩, fun s hs => (S s hs).tg.1, fun s hs => (S s hs).rd.1, H.pi.1⟩
  · have := (S s hs).st
    omega
  · have h5 := (S s hs).se
    have h6 := (S s hs).li
    unfold Sm
    omega
theorem world_new (H : SmallHarb h) (S : ∀ s ∈ ships, SmallShip s) (n : ships.length = 1 ∨ ships.length = 2) : NewOk h ships := by
  have h1 := H.dn
  have h2 := H.bn
  have h3 := H.la
  have h4 := H.tg
  have h5 := H.pi
  refine ⟨⟨by omega, fun x hx => ?_, h2, fun x hx => ?_, ?_, ?_, ?_⟩, ⟨by omega, fun s hs p hp => ?_⟩, (world_wx H S n).wd⟩
  · have := H.d x hx
    unfold inB
    simp only [Bool.and_eq_true, decide_eq_true_eq]
    omega
  · have := H.b x hx
    unfold inB
    simp only [Bool.and_eq_true, decide_eq_true_eq]
    omega
  · unfold inB
    simp only [Bool.and_eq_true, decide_eq_true_eq]
    omega
  · unfold inB
    simp only [Bool.and_eq_true, decide_eq_true_eq]
    omega
  · unfold inB
    simp only [Bool.and_eq_true, decide_eq_true_eq]
    omega
  · obtain ⟨q1, q2, q3, q4, q5, q6, q7⟩ := S s hs
    have e : (shipInts s).zip bounds = [(s.ready, (0, 20)), (s.length, (1, 9)), (s.draught, (0, 40)), (s.stay, (1, 4)), (s.tugs, (0, 3)), (s.sea, (0, 9)), (s.lie, (0, 9))] := rfl
    rw [e] at hp
    simp only [List.mem_cons, List.not_mem_nil, or_false] at hp
    unfold inB
    rcases hp with rfl | rfl | rfl | rfl | rfl | rfl | rfl <;> (simp only [Bool.and_eq_true, decide_eq_true_eq]; omega)
theorem world_tup (H : SmallHarb h) {s : Ship} (S : SmallShip s) : TupOk h s := by
  have h1 := H.dn
  have h2 := H.bn
  have h3 := H.la
  have h4 := S.rd
  have h5 := S.st
  exact ⟨by omega, by omega, by omega, by omega, by omega⟩
end
end TW
/-! WM9: what the consoles show is shown whole. -/
namespace TW
open PySem PySem.Spec PyProof.Rows
mutual
/-- numbers below 10 ^ 9 in lists and tuples; how long the text is at most -/
inductive Shw : PyData → Nat → Prop
  | non : Shw .none 10
  | int {i : Int} : i.natAbs < 10 ^ 9 → Shw (.int i) 10
  | lst {xs : List PyData} {n : Nat} : ShwA xs n → Shw (.list xs) (n + 2)
  | tup {xs : List PyData} {n : Nat} : ShwA xs n → Shw (.tuple xs) (n + 2)
inductive ShwA : List PyData → Nat → Prop
  | nil : ShwA [] 0
  | cons {x : PyData} {xs : List PyData} {m n : Nat} : Shw x m → ShwA xs n → ShwA (x :: xs) (m + 2 + n)
end
theorem shown_int {i : Int} (h : i.natAbs < 10 ^ 9) : (PyData.int i).shown.length ≤ 10 := by
  rw [PyData.shown]
  show (Str.ofString (toString i)).length ≤ 10
  rw [PySem.ofString_length]
  exact int_text_length_le10 (k := 9) (by decide) h
theorem list_text_le (ts : List Str) : (listText ts).length ≤ piled ts + 2 := by
  cases ts with
  | nil => exact Nat.le_refl _
  | cons t r =>
    unfold listText
    rw [strLen_append]
    have h := textFrom_length_pos r 1 (("[" : Str) ++ (if (0 : Nat) > 0 then ", " else "" : String) ++ t) (Nat.succ_pos 0)
    have e : textFrom 0 "[" (t :: r) = textFrom 1 (("[" : Str) ++ (if (0 : Nat) > 0 then ", " else "" : String) ++ t) r := rfl
    rw [e, h, strLen_append, strLen_append, piled_cons]
    have e1 : (("[" : String) : Str).length = 1 := rfl
    have e2 : ((if (0 : Nat) > 0 then ", " else "" : String) : Str).length = 0 := rfl
    have e3 : (("]" : String) : Str).length = 1 := rfl
    rw [e1, e2, e3]
    omega
theorem tuple_text_le (ts : List Str) : (tupleText ts).length ≤ piled ts + 2 := by
  unfold tupleText
  rw [strLen_append, strLen_append]
  have e1 : (("(" : String) : Str).length = 1 := rfl
  have e3 : (((if ts.length == 1 then ",)" else ")" : String)) : Str).length ≤ 2 := by
    split
    · exact Nat.le_refl 2
    · exact (by decide : 1 ≤ 2)
  rw [e1]
  cases ts with
  | nil =>
    have e2 : (Str.join ", " []).length = 0 := rfl
    have e4 : (((if ([] : List Str).length == 1 then ",)" else ")" : String)) : Str).length = 1 := rfl
    rw [e2, e4, piled_nil]
    omega
  | cons t r =>
    have := join_length_add (t :: r) (by simp)
    omega
mutual
theorem Shw.ok : ∀ {d : PyData} {n : Nat}, Shw d n → d.shown.length ≤ n ∧ d.showable = true ∧ d.canLay0 = true
  | _, _, .non => ⟨by rw [PyData.shown]; exact (by decide : 4 ≤ 10), by simp [PyData.showable], by simp [PyData.canLay0]⟩
  | _, _, .int (i := i) h => ⟨shown_int h, by
    rw [PyData.showable]
    refine decide_eq_true ?_
    by_cases z : i.natAbs = 0
    · rw [z]
      decide
    · exact (Nat.log2_lt z).mpr (Nat.lt_of_lt_of_le h (Nat.le_trans (by decide : (10 : Nat) ^ 9 ≤ 2 ^ 30) (Nat.pow_le_pow_right (by decide) (by decide)))), by simp [PyData.canLay0]⟩
  | _, _, .lst a => by
    obtain ⟨h1, h2, h3⟩ := ShwA.ok a
    refine ⟨?_, by rw [PyData.showable]; exact h2, by rw [PyData.canLay0]; exact h3⟩
    rw [PyData.shown]
    exact Nat.le_trans (list_text_le _) (Nat.add_le_add_right h1 2)
  | _, _, .tup a => by
    obtain ⟨h1, h2, h3⟩ := ShwA.ok a
    refine ⟨?_, by rw [PyData.showable]; exact h2, by rw [PyData.canLay0]; exact h3⟩
    rw [PyData.shown]
    exact Nat.le_trans (tuple_text_le _) (Nat.add_le_add_right h1 2)
theorem ShwA.ok : ∀ {ds : List PyData} {n : Nat}, ShwA ds n → piled (PyData.shownAll ds) ≤ n ∧ PyData.showableAll ds = true ∧ PyData.canLayAll0 ds = true
  | _, _, .nil => ⟨by rw [PyData.shownAll]; exact Nat.le_refl _, by simp [PyData.showableAll], by simp [PyData.canLayAll0]⟩
  | _, _, .cons a b => by
    obtain ⟨h1, h2, h3⟩ := Shw.ok a
    obtain ⟨k1, k2, k3⟩ := ShwA.ok b
    refine ⟨?_, by rw [PyData.showableAll, h2, k2]; rfl, by rw [PyData.canLayAll0, h3, k3]; rfl⟩
    rw [PyData.shownAll, piled_cons]
    omega
end
theorem ShwA.map {α : Type} {f : α → PyData} {c : Nat} : ∀ {l : List α}, (∀ x ∈ l, Shw (f x) c) → ShwA (l.map f) (l.length * (c + 2))
  | [], _ => by rw [List.length_nil, Nat.zero_mul]; exact .nil
  | x :: l, h => by
    have := ShwA.cons (h x (.head _)) (ShwA.map (l := l) fun y hy => h y (.tail _ hy))
    rw [List.length_cons, Nat.succ_mul, Nat.add_comm]
    exact this
theorem shw_pair {p : Int × Int} (h1 : p.1.natAbs < 10 ^ 9) (h2 : p.2.natAbs < 10 ^ 9) : Shw (ePair p) 26 := .tup (.cons (.int h1) (.cons (.int h2) .nil))
theorem shw_trip {p : Trip} (h1 : p.1.natAbs < 10 ^ 9) (h2 : p.2.1.natAbs < 10 ^ 9) (h3 : p.2.2.natAbs < 10 ^ 9) : Shw (eTrip p) 38 := .tup (.cons (.int h1) (.cons (.int h2) (.cons (.int h3) .nil)))
theorem shw_opt {o : Option Int} (h : ∀ t, o = some t → t.natAbs < 10 ^ 9) : Shw (eOpt o) 10 := by
  cases o with
  | none => exact .non
  | some t => exact .int (h t rfl)
end TW
/-! WM10: what a console shows, as a datum; how long its text is. -/
namespace TW
open PySem PySem.Spec PyProof.Rows
def shownL (h : Harb) (ships : List Ship) (pr : Lat) (t : Int) : List PyData := [eHarb h, eShips ships, eSta (hereP h ships pr t), eProm pr, eTrips (planOf ships (wayP h ships pr)), .int (costOf ships (planOf ships (wayP h ships pr)))]
def PrSm (pr : Lat) : Prop := ∀ x ∈ pr, ∀ t, x = some t → t.natAbs < 10 ^ 9
theorem prsm_no (ships : List Ship) : PrSm (noPr ships) := fun x hx t e => by
  unfold noPr at hx
  obtain ⟨_, _, rfl⟩ := List.mem_map.mp hx
  cases e
theorem prsm_put {pr : Lat} (h : PrSm pr) (ship : Nat) {hour : Int} (hh : hour.natAbs < 10 ^ 9) : PrSm (putPr pr ship hour) := fun x hx t e => by
  unfold putPr at hx
  obtain ⟨p, hp, rfl⟩ := List.mem_map.mp hx
  split at e
  · cases e
    exact hh
  · refine h p.1 ?_ t e
    have := List.mem_zipIdx hp
    rw [this.2.2]
    exact List.getElem_mem _
theorem prsm_of {h : Harb} {ships : List Ship} : ∀ (ds : List Int) {pr : Lat}, PrSm pr → PrSm (prOf h ships pr ds)
  | [], _, p => p
  | d :: ds, pr, p => by
    refine prsm_of ds (pr := prStep h ships pr d) ?_
    unfold prStep
    have := md d (m := 7) (by decide)
    split
    · split
      · exact prsm_put p _ (by omega)
      · exact p
    · exact p
section
variable {h : Harb} {ships : List Ship} {pr : Lat}
theorem ConOk.good (c : ConOk h ships pr) {n : Nat} (hn : n < ships.length) : Good h (ships.getD n default) (planAt (planOf ships (wayP h ships pr)) n) := by
  obtain ⟨a, b, o, hr, hm⟩ := way_tuple c.wx (begin_stt c.wx.wd) c.rs hn
  obtain ⟨a', b', o', hr', hp⟩ := c.rows hn
  change rowsFor (wayP h ships pr) n = _ at hr
  rw [hr] at hr'
  have e : (a', b', o') = (a, b, o) := by
    simp only [List.cons.injEq, Prod.mk.injEq, and_true] at hr'
    rw [hr'.1.1, hr'.1.2, hr'.2]
  rw [hp, e]
  exact good_of c.wx hn hm
theorem plan_len : (planOf ships (wayP h ships pr)).length = ships.length := by
  unfold planOf
  rw [List.length_map, List.length_range]
theorem ConOk.plan_mem (c : ConOk h ships pr) {x : Trip} (hx : x ∈ planOf ships (wayP h ships pr)) : ∃ n, n < ships.length ∧ x = planAt (planOf ships (wayP h ships pr)) n := by
  obtain ⟨n, hn, rfl⟩ := List.mem_iff_getElem.mp hx
  refine ⟨n, by rw [plan_len] at hn; exact hn, ?_⟩
  unfold planAt
  rw [List.getD_eq_getElem?_getD, List.getElem?_eq_getElem hn]
  rfl
theorem mul_small {x y : Int} (hx : 0 ≤ x ∧ x ≤ 9) (hy : 0 ≤ y ∧ y ≤ 4) : 0 ≤ x * y ∧ x * y ≤ 36 := by
  have : y = 0 ∨ y = 1 ∨ y = 2 ∨ y = 3 ∨ y = 4 := by omega
  rcases this with rfl | rfl | rfl | rfl | rfl <;> omega
theorem cost_one {s : Ship} {τ : Trip} (H : SmallHarb h) (S : SmallShip s) (g : Good h s τ) : 0 ≤ (τ.1 - s.ready) * s.sea + (τ.2.2 - τ.1 - s.stay - 1) * s.lie ∧ (τ.1 - s.ready) * s.sea + (τ.2.2 - τ.1 - s.stay - 1) * s.lie ≤ 72 := by
  have h1 := g.rd
  have h2 := g.st
  have h3 := g.la
  have h4 := H.la
  have h5 := S.rd
  have h6 := S.st
  have a := mul_small (x := τ.1 - s.ready) (y := s.sea) (by omega) S.se
  have b := mul_small (x := τ.2.2 - τ.1 - s.stay - 1) (y := s.lie) (by omega) S.li
  omega
theorem ConOk.cost (c : ConOk h ships pr) (H : SmallHarb h) (S : ∀ s ∈ ships, SmallShip s) : (costOf ships (planOf ships (wayP h ships pr))).natAbs < 10 ^ 9 := by
  have gd : ∀ n, n < ships.length → SmallShip (ships.getD n default) ∧ Good h (ships.getD n default) (planAt (planOf ships (wayP h ships pr)) n) := fun n hn => ⟨S _ (by
    rw [List.getD_eq_getElem?_getD, List.getElem?_eq_getElem hn]
    exact List.getElem_mem hn), c.good hn⟩
  have pl := plan_len (h := h) (ships := ships) (pr := pr)
  generalize planOf ships (wayP h ships pr) = plan at gd pl ⊢
  rcases c.n12 with h1 | h2
  · match ships, h1, plan, pl with
    | [s0], _, [τ], _ =>
      obtain ⟨S0, g0⟩ := gd 0 (Nat.zero_lt_succ _)
      have z := cost_one H S0 g0
      have e : costOf [s0] [τ] = ((τ.1 - s0.ready) * s0.sea + (τ.2.2 - τ.1 - s0.stay - 1) * s0.lie) + 0 := rfl
      change 0 ≤ (τ.1 - s0.ready) * s0.sea + (τ.2.2 - τ.1 - s0.stay - 1) * s0.lie ∧ (τ.1 - s0.ready) * s0.sea + (τ.2.2 - τ.1 - s0.stay - 1) * s0.lie ≤ 72 at z
      rw [e]
      omega
  · match ships, h2, plan, pl with
    | [s0, s1], _, [τ, ρ], _ =>
      obtain ⟨S0, g0⟩ := gd 0 (Nat.zero_lt_succ _)
      obtain ⟨S1, g1⟩ := gd 1 (Nat.lt_succ_self 1)
      have z := cost_one H S0 g0
      have y := cost_one H S1 g1
      have e : costOf [s0, s1] [τ, ρ] = ((τ.1 - s0.ready) * s0.sea + (τ.2.2 - τ.1 - s0.stay - 1) * s0.lie) + (((ρ.1 - s1.ready) * s1.sea + (ρ.2.2 - ρ.1 - s1.stay - 1) * s1.lie) + 0) := rfl
      change 0 ≤ (τ.1 - s0.ready) * s0.sea + (τ.2.2 - τ.1 - s0.stay - 1) * s0.lie ∧ (τ.1 - s0.ready) * s0.sea + (τ.2.2 - τ.1 - s0.stay - 1) * s0.lie ≤ 72 at z
      change 0 ≤ (ρ.1 - s1.ready) * s1.sea + (ρ.2.2 - ρ.1 - s1.stay - 1) * s1.lie ∧ (ρ.1 - s1.ready) * s1.sea + (ρ.2.2 - ρ.1 - s1.stay - 1) * s1.lie ≤ 72 at y
      rw [e]
      omega
theorem ConOk.shw (c : ConOk h ships pr) (H : SmallHarb h) (S : ∀ s ∈ ships, SmallShip s) (p : PrSm pr) {t : Int} (h0 : 0 ≤ t) (h1 : t ≤ h.last + 1) : ∃ n, n ≤ 10000 ∧ Shw (.list (shownL h ships pr t)) n := by
  have hd := H.dn
  have hb := H.bn
  have hl := H.la
  have ht := H.tg
  have hp := H.pi
  have hn := c.n12
  have hpl := c.pl
  have st := (c.at h0 h1).st
  have stl := st.pl
  have pl := plan_len (h := h) (ships := ships) (pr := pr)
  have d1 : ShwA (h.depths.map PyData.int) (h.depths.length * (10 + 2)) := ShwA.map fun x hx => .int (by have := H.d x hx; omega)
  have d2 : ShwA (h.berths.map PyData.int) (h.berths.length * (10 + 2)) := ShwA.map fun x hx => .int (by have := H.b x hx; omega)
  have d3 : ShwA (ships.map eShip) (ships.length * (86 + 2)) := ShwA.map fun s hs => by
    have q := S s hs
    obtain ⟨q1, q2, q3, q4, q5, q6, q7⟩ := q
    exact .tup (.cons (.int (by omega)) (.cons (.int (by omega)) (.cons (.int (by omega)) (.cons (.int (by omega)) (.cons (.int (by omega)) (.cons (.int (by omega)) (.cons (.int (by omega)) .nil)))))))
  have d4 : ShwA ((hereP h ships pr t).2.map ePair) ((hereP h ships pr t).2.length * (26 + 2)) := ShwA.map fun q hq => by
    have := st.ps q hq
    have : q.1.natAbs ≤ 2 ∧ q.2.natAbs ≤ 2 := by
      simp only [plSet, List.mem_cons, List.not_mem_nil, or_false] at this
      rcases this with rfl | rfl | rfl | rfl | rfl | rfl | rfl | rfl <;> decide
    exact shw_pair (by omega) (by omega)
  have d5 : ShwA (pr.map eOpt) (pr.length * (10 + 2)) := ShwA.map fun x hx => shw_opt (p x hx)
  have d6 : ShwA ((planOf ships (wayP h ships pr)).map eTrip) ((planOf ships (wayP h ships pr)).length * (38 + 2)) := ShwA.map fun x hx => by
    obtain ⟨n, hn, rfl⟩ := c.plan_mem hx
    have g := c.good hn
    have g1 := g.r0
    have g2 := g.rd
    have g3 := g.st
    have g4 := g.la
    have g5 := g.b
    have g6 := g.s0
    exact shw_trip (by omega) (by omega) (by omega)
  have hh : (hereP h ships pr t).1.natAbs < 10 ^ 9 := by
    have := st.h0
    have := st.h1
    omega
  refine ⟨_, ?_, .lst (.cons (.tup (.cons (.lst d1) (.cons (.lst d2) (.cons (.int (by omega)) (.cons (.int (by omega)) (.cons (.int (by omega)) .nil)))))) (.cons (.lst d3) (.cons (.tup (.cons (.int hh) (.cons (.tup d4) .nil))) (.cons (.lst d5) (.cons (.lst d6) (.cons (.int (c.cost H S)) .nil))))))⟩
  omega
end
/-! ### equal lists of rows -/
theorem trips_lay : ∀ l : List Trip, PyData.canLayAll0 (l.map eTrip) = true
  | [] => by simp [PyData.canLayAll0]
  | t :: l => by
    rw [List.map_cons, PyData.canLayAll0, trips_lay l]
    simp [eTrip, PyData.canLay0, PyData.canLayAll0]
theorem trips_depth : ∀ l : List Trip, PyData.depthAll (l.map eTrip) ≤ 4
  | [] => by simp [PyData.depthAll]
  | t :: l => by
    have ih := trips_depth l
    rw [List.map_cons, PyData.depthAll]
    have : (eTrip t).depth ≤ 4 := by
      unfold eTrip
      simp [PyData.depth, PyData.depthAll]
    omega
theorem trips_shaped (l : List Trip) : SeqAt.shaped (eTrips l) = true := by
  unfold SeqAt.shaped
  have h1 : (eTrips l).canLay0 = true := by
    unfold eTrips
    rw [PyData.canLay0]
    exact trips_lay l
  have h2 : (eTrips l).depth ≤ 64 := by
    unfold eTrips
    rw [PyData.depth]
    have := trips_depth l
    omega
  rw [h1, decide_eq_true h2]
  rfl
theorem trips_eqv (l : List Trip) : PyData.eqv (eTrips l) (eTrips l) = true := SeqAt.eqv_refl _ (SeqAt.canLay_of_shaped (trips_shaped l))
theorem depth_map {α : Type} {f : α → PyData} {c : Nat} (h : ∀ x, (f x).depth ≤ c) : ∀ l : List α, PyData.depthAll (l.map f) ≤ c
  | [] => by simp [PyData.depthAll]
  | x :: l => by
    have := depth_map h l
    have := h x
    rw [List.map_cons, PyData.depthAll]
    omega
theorem shown_depth (h : Harb) (ships : List Ship) (pr : Lat) (t : Int) : (PyData.list (shownL h ships pr t)).depth ≤ 60 := by
  have d0 : ∀ l : List Int, PyData.depthAll (l.map PyData.int) ≤ 4 := depth_map fun x => by simp [PyData.depth]
  have d1 : ∀ l : List Ship, PyData.depthAll (l.map eShip) ≤ 4 := depth_map fun x => by
    unfold eShip
    simp [PyData.depth, PyData.depthAll]
  have d2 : ∀ l : List (Int × Int), PyData.depthAll (l.map ePair) ≤ 4 := depth_map fun x => by
    unfold ePair
    simp [PyData.depth, PyData.depthAll]
  have d3 : ∀ l : Lat, PyData.depthAll (l.map eOpt) ≤ 4 := depth_map fun x => by
    cases x <;> simp [eOpt, PyData.depth]
  have d4 := trips_depth
  have k1 := d0 h.depths
  have k2 := d0 h.berths
  have k3 := d1 ships
  have k4 := d2 (hereP h ships pr t).2
  have k5 := d3 pr
  have k6 := d4 (planOf ships (wayP h ships pr))
  simp only [shownL, eHarb, eInts, eShips, eSta, ePls, eProm, eTrips, PyData.depth, PyData.depthAll]
  omega
end TW
/-! WL9: the law's last rows: the other console, what is shown. -/
namespace TW
open PySem PySem.Spec PyProof.Rows L2
theorem c_eqS {X : Cx} {x y : Str} : CmpOk X .Eq (.str x) (.str y) (decide (V.str x = V.str y)) := ⟨_, op_eq, fun C H v u s pv pu Q q => by
  cases pv
  cases pu
  exact ⟨rfl, q⟩⟩
abbrev cxL (P : Program) (w : World) (K : PySem.W.Frag) (mg : Str → Option Value) (base : Heap) (f : Addr) (cdv : Value) (s : Shared) (H : Hp) : Cx := (cxOf CX0 P w K mg base N62 "law" (defScope (top 62)) f cdv callerA [] s H E0).nox
abbrev D62 : Ends := { nx := fun _ _ => False, rt := fun v _ => v = .bl true }
/-- the law's world, at some state of its -/
structure LW (h : Harb) (ships : List Ship) (pr : Lat) : Prop where
  co : ConOk h ships pr
  H : SmallHarb h
  S : ∀ s ∈ ships, SmallShip s
  sm : PrSm pr
theorem ConOk.from0 {h : Harb} {ships : List Ship} {pr : Lat} (c : ConOk h ships pr) : fromT (wayP h ships pr) 0 = wayP h ships pr := c.at0.wy.symm
section
variable {P : Program} {w : World} {K : PySem.W.Frag} {mg : Str → Option Value} {base : Heap} {CS CC CN CL : Addr} {f : Addr} {cdv : Value} {s0 : Shared} {H0 : Hp}
theorem tailC (L : AllT P K mg CS CC CN CL) (hr : Room 12 (cxL P w K mg base f cdv s0 H0).A) (hgd : (cxL P w K mg base f cdv s0 H0).A.guards = some [])
    {hd : Harb} {ships : List Ship} {pr : Lat} (lw : LW hd ships pr) {t : Int} (ht : 0 ≤ t ∧ t ≤ hd.last + 1) {B H : Hp} {v0 v1 v2 v3 pv tv : V} {x9 x10 x11 : Option V} {c1 dx1 c2 dx2 : Addr} {n1 n2 : Nat} (hne : c1 ≠ c2) (hn2 : n2 < 100)
    (con1 : Con K CS CC c1 dx1 (conAt hd ships pr t) n1 B H) (con2 : Con K CS CC c2 dx2 (conP hd ships pr) n2 B H) (rt : Dq K B tv (eTrips (freshOf (wayP hd ships pr) t))) :
    WSs (cxL P w K mg base f cdv s0 H0) ((defBody (top 62)).drop 7) D62 [some v0, some v1, some v2, some v3, some (.ref c1), some (.ref c2), some pv, some (.int t), some tv, x9, x10, x11] H := by
  obtain ⟨co, SH, SS, sm⟩ := lw
  obtain ⟨T, S, C, NW, ne, ⟨qual, TC⟩, noS, xf, exC, exN, mC, mN⟩ := L
  have hu := un64 hr
  rw [co.start] at con2
  have hg := co.go (t := 0) (u := t) (Int.le_refl _) ht.1 ht.2
  have hok := co.goOk (t := 0) (u := t) (Int.le_refl _) ht.1 ht.2
  have hfr : freshOf (conAt hd ships pr 0).way t = freshOf (wayP hd ships pr) t := by
    show freshOf (fromT (wayP hd ships pr) 0) t = _
    rw [co.from0]
  obtain ⟨r, ho, hrr⟩ := c_ne (X := cxL P w K mg base f cdv s0 H0) hu (trips_shaped (freshOf (wayP hd ships pr) t)) (trips_shaped (freshOf (wayP hd ships pr) t))
  refine ws_cons (ws_of (ps_if ptW pssW pssW) (wt_of (pt_cmpR ho peW peW (nomark _)) ?_))
  refine we_conM (x := t) (PL := DDs K [.int t]) (mt_go T S C NW ne) C.cls (hr.mono (by decide)) con2 (x_var 5 rfl rfl) (xd_cons (x_var (v := V.int t) 7 rfl (.int _)) xd_nil) (fun _ _ _ => rfl) (fun C' vs _ q => ⟨⟨hok, hn2⟩, q⟩) fun y' n' v B1 H1 g1 cn rr => ?_
  obtain ⟨rfl, rfl, rv⟩ := rr
  rw [hg] at cn
  rw [hfr] at rv
  have con1' := con1.other hne g1
  refine (x_var (P := DD K (eTrips (freshOf (wayP hd ships pr) t))) 8 rfl (Dq.up g1.bb _ _ rt)) H1 cn.bh _ fun u B2 H2 g2 p2 => ?_
  refine hrr B2 H2 v u g2.bh (Dq.up g2.bb _ _ rv) p2 _ ⟨_, rfl, ?_⟩
  rw [trips_eqv]
  refine iteF (ws_nil ?_)
  have k1 := con1'.step g2
  have k2 := cn.step g2
  obtain ⟨C1, s1, s2, ic1, _⟩ := k1.frz
  obtain ⟨C2, s3, s4, ic2, _⟩ := k2.isCon s1 s2
  have ic1' := Mono.up (P := IsCon K CS CC (conAt hd ships pr t)) s3 ic1
  have po := co.planOk t
  have hsn := co.wx.wd.sn
  have hpl := co.pl
  have hdn := SH.dn
  have hbn := SH.bn
  refine ws_cons (ws_setLcV (xs := [.ref c1, .ref c2]) (d := .list (shownL hd ships pr t)) (own := o62_0) 10 (xv_list (x_lst2 (x_var 4 rfl rfl) (x_var 5 rfl rfl))) (show 2 < sizeLine by decide) (fun i v B' ea sb => ?_) s4 (fun sv B3 H3 g3 p3 => ?_) rfl sc62.nd bk62_0 rfl)
  · have ic : IsCon K CS CC (conAt hd ships pr t) B' v := by
      match i, ea with
      | 0, ea =>
        cases ea
        exact Mono.up sb ic1'
      | 1, ea =>
        cases ea
        exact Mono.up sb ic2
      | i + 2, ea => exact nomatch ea
    refine ⟨[some v0, some v1, some v2, some v3, some (.ref c1), some (.ref c2), some pv, some (.int t), some tv, x9, x10, some v], rfl, ?_⟩
    rintro XB ⟨_, _, _, _, _, rfl⟩
    refine ⟨xg_name 11 sc62.nd, ?_⟩
    refine x_lst (ds := shownL hd ships pr t) (xd_cons (x_meth0 (P1 := IsCon K CS CC (conAt hd ships pr t)) (conAt hd ships pr t) (mt_harbour C S) C.cls (hr.mono (by decide)) (x_var 11 rfl ic) (fun C' v _ p => ⟨con_cell p "harbour" (fun _ _ _ => rfl), ⟨by show hd.depths.length ≤ 100; omega, by show hd.berths.length ≤ 100; omega⟩, v, rfl, p⟩))
      (xd_cons (x_meth0 (P1 := IsCon K CS CC (conAt hd ships pr t)) (conAt hd ships pr t) (mt_ships C S) C.cls (hr.mono (by decide)) (x_var 11 rfl ic) (fun C' v _ p => ⟨con_cell p "ships" (fun _ _ _ => rfl), by show ships.length ≤ 100; omega, v, rfl, p⟩))
      (xd_cons (x_meth0 (P1 := IsCon K CS CC (conAt hd ships pr t)) (conAt hd ships pr t) (mt_cstate C S) C.cls (hr.mono (by decide)) (x_var 11 rfl ic) (fun C' v _ p => ⟨con_cell p "state" (fun _ _ _ => rfl), v, rfl, p⟩))
      (xd_cons (x_meth0 (P1 := IsCon K CS CC (conAt hd ships pr t)) (conAt hd ships pr t) (mt_promises C S) C.cls (hr.mono (by decide)) (x_var 11 rfl ic) (fun C' v _ p => ⟨con_cell p "promises" (fun _ _ _ => rfl), by show pr.length ≤ 100; omega, v, rfl, p⟩))
      (xd_cons (XE.data (x_meth0 (P1 := IsCon K CS CC (conAt hd ships pr t)) (conAt hd ships pr t) (mt_cplan T C S) C.cls (hr.mono (by decide)) (x_var 11 rfl ic) (fun C' v _ p => ⟨con_cell p "plan" (fun _ _ _ => rfl), po, v, rfl, p⟩)) (by rw [co.all t]; rfl))
      (xd_cons (XE.data (x_meth0 (P1 := IsCon K CS CC (conAt hd ships pr t)) (conAt hd ships pr t) (mt_ccost T C S) C.cls (hr.mono (by decide)) (x_var 11 rfl ic) (fun C' v _ p => ⟨con_cell p "cost" (fun _ _ _ => rfl), po, v, rfl, p⟩)) (by rw [co.all t]; rfl)) xd_nil)))))) (show 6 ≤ sizeLine by decide)
  · obtain ⟨m, hm, sh⟩ := co.shw SH SS sm ht.1 ht.2
    obtain ⟨h1, h2, h3⟩ := sh.ok
    have h4 := PyData.hasDict_of_canLay _ h3
    have hdep : (PyData.list (shownL hd ships pr t)).depth ≤ 60 := shown_depth _ _ _ _
    have hsz : (PyData.list (shownL hd ships pr t)).shown.length ≤ sizeLine := by
      rw [line_big]
      omega
    refine ws_one (ws_ret (P := DD K (.bool (decide (V.str (PyData.list (shownL hd ships pr t)).shown = V.str (PyData.list (shownL hd ships pr t)).shown)))) (x_cmp c_eqS (x_reprD hgd hu h2 h4 hdep hsz rfl T.b_repr (x_ixL (x_var 10 rfl p3) x_int rfl)) (x_reprD hgd hu h2 h4 hdep hsz rfl T.b_repr (x_ixL (x_var 10 rfl p3) x_int rfl))) g3.bh fun v B4 H4 g4 p4 => ?_)
    rw [decide_eq_true rfl] at p4
    exact Dq.bl_v p4
end
end TW
/-! WL10: the law's loop over hours; the promises. -/
namespace TW
open PySem PySem.Spec PyProof.Rows L2
section
variable {P : Program} {w : World} {K : PySem.W.Frag} {mg : Str → Option Value} {base : Heap} {CS CC CN CL : Addr} {f : Addr} {cdv : Value} {s0 : Shared} {H0 : Hp}
theorem tailB (L : AllT P K mg CS CC CN CL) (hr : Room 12 (cxL P w K mg base f cdv s0 H0).A) (hgd : (cxL P w K mg base f cdv s0 H0).A.guards = some [])
    {hd : Harb} {ships : List Ship} {pr : Lat} (lw : LW hd ships pr) {ds : List Int} (hds : ds.length = 60) {B H : Hp} {v0 v1 v2 v3 pv tv : V} {x9 x10 x11 : Option V} {c1 dx1 c2 dx2 : Addr} {n1 n2 : Nat} (hne : c1 ≠ c2) (hn1 : n1 ≤ 50) (hn2 : n2 < 100)
    (con1 : Con K CS CC c1 dx1 (conP hd ships pr) n1 B H) (con2 : Con K CS CC c2 dx2 (conP hd ships pr) n2 B H) (r1 : Dq K B v1 (eInts ds)) (r2 : Dq K B v2 (eHarb hd)) (rp : Dq K B pv (eTrips (planOf ships (wayP hd ships pr)))) (rt : Dq K B tv (eTrips [])) :
    WSs (cxL P w K mg base f cdv s0 H0) ((defBody (top 62)).drop 6) D62 [some v0, some v1, some v2, some v3, some (.ref c1), some (.ref c2), some pv, some (.int 0), some tv, x9, x10, x11] H := by
  obtain ⟨co, SH, SS, sm⟩ := id lw
  obtain ⟨T, S, C, NW, ne, ⟨qual, TC⟩, noS, xf, exC, exN, mC, mN⟩ := id L
  have hu := un64 hr
  have hl := SH.la
  have hm5 := md (dr ds 43) (m := 5) (by decide)
  have asc := co.asc
  have fr0 : freshOf (wayP hd ships pr) 0 = [] := by
    unfold freshOf
    rw [List.filter_eq_nil_iff]
    intro e he
    have := asc.fr e he
    simp
    omega
  refine ws_cons (ws_forB (l := List.range (1 + dr ds 43 % 5).toNat) (enc := fun (i : Nat) => PyData.int (i : Int)) rfl (xi_rangeN (n := 1 + dr ds 43 % 5) rfl T.b_range (x_add x_int (x_mod (x_intI rfl T.b_int (x_ixL (x_var 1 rfl r1) x_int (dr_at (ds := ds) (i := 43) (by omega)))) x_int (by decide))) (by omega) (by omega)) con1.bh fun B1 H1 g1 => ?_)
  refine ⟨fun i σ' B' H' => ∃ t tv x9 n1', σ' = [some v0, some v1, some v2, some v3, some (.ref c1), some (.ref c2), some pv, some (.int t), some tv, x9, x10, x11] ∧ (0 ≤ t ∧ t ≤ hd.last + 1) ∧ n1' ≤ n1 + i ∧ Con K CS CC c1 dx1 (conAt hd ships pr t) n1' B' H' ∧ Con K CS CC c2 dx2 (conP hd ships pr) n2 B' H' ∧ Dq K B' tv (eTrips (freshOf (wayP hd ships pr) t)) ∧ Same B1 B',
    ⟨0, tv, _, n1, rfl, ⟨Int.le_refl _, by omega⟩, Nat.le_refl _, by rw [← co.start]; exact con1.step g1, con2.step g1, by rw [fr0]; exact Dq.up g1.bb _ _ rt, .refl _⟩, fun i σ' B' H' h => by
      obtain ⟨_, _, _, _, _, _, _, c, _, _, s⟩ := h
      exact ⟨s, c.bh⟩, ?_, ?_⟩
  · rintro i n v σ' B' H' B2 H2 ea ⟨t, tv', x9', n1', rfl, ht, hn', k1, k2, rt', sB⟩ g2 dv
    obtain ⟨hi, rfl⟩ : i < (1 + dr ds 43 % 5).toNat ∧ i = n := by
      obtain ⟨h2, h3⟩ := List.getElem?_eq_some_iff.mp ea
      rw [List.length_range] at h2
      rw [List.getElem_range] at h3
      exact ⟨h2, h3⟩
    obtain rfl := Dq.int_v dv
    have s12 := (g1.bb.trans sB).trans g2.bb
    have k1 := k1.step g2
    have k2 := k2.step g2
    have m4 := md (dr ds (44 + i)) (m := 4) (by decide)
    obtain ⟨u, hu', hu2⟩ : ∃ u, (if t + dr ds (44 + i) % 4 < hd.last + 1 then t + dr ds (44 + i) % 4 else hd.last + 1) = u ∧ t ≤ u ∧ u ≤ hd.last + 1 := ⟨_, rfl, by split <;> omega⟩
    refine ⟨_, xg_name 9 sc62.nd, ?_⟩
    refine ws_cons (ws_set (P := DD K (.int u)) 7 ?_ k1.bh (fun uv B3 H3 g3 p3 => ?_) (hN := sc62.nd))
    · rw [← hu']
      exact x_min2 rfl rfl T.b_min (x_add (x_ixT (x_var 2 rfl (Dq.up s12 _ _ r2)) x_int rfl) x_int) (x_add (x_var (v := V.int t) 7 rfl (.int _)) (x_mod (x_intI rfl T.b_int (x_ixL (x_var 1 rfl (Dq.up s12 _ _ r1)) (x_add x_int (x_var (v := V.int (i : Int)) 9 rfl (.int _))) (dr_at' (ds := ds) (i := 44 + i) (by omega) (by omega)))) x_int (by decide)))
    · obtain rfl := Dq.int_v p3
      have k1 := k1.step g3
      have k2 := k2.step g3
      have rt3 := Dq.up (g2.bb.trans g3.bb) _ _ rt'
      have hgo := co.go (t := t) (u := u) ht.1 hu2.1 hu2.2
      have hok := co.goOk (t := t) (u := u) ht.1 hu2.1 hu2.2
      have told := told_add asc.pw (t := t) (u := u) hu2.1
      have hlen := co.len
      refine ws_cons (ws_of (ps_set (i := 8) sc62.nd rfl (.inl rfl) (pe_op op_cat peW peW) rfl (.inr rfl)) ?_)
      refine (x_var (P := DD K (eTrips (freshOf (wayP hd ships pr) t))) 8 rfl rt3) H3 k1.bh _ fun a B4 H4 g4 p4 => ?_
      refine we_conM (x := u) (PL := DDs K [.int u]) (mt_go T S C NW ne) C.cls (hr.mono (by decide)) (k1.step g4) (x_var 4 rfl rfl) (xd_cons (x_var (v := V.int u) 7 rfl (.int _)) xd_nil) (fun _ _ _ => rfl) (fun C' vs _ q => ⟨⟨hok, by omega⟩, q⟩) fun y' n' b B5 H5 g5 cn rr => ?_
      obtain ⟨rfl, rfl, rv⟩ := rr
      rw [hgo] at cn
      have rv : Dq K B5 b (eTrips (freshOf (fromT (wayP hd ships pr) t) u)) := rv
      have k2 := (k2.step g4).other hne.symm g5
      obtain ⟨l1, xs, rfl, hl1, ra⟩ := Dq.lst_v (Dq.up g5.bb _ _ p4)
      obtain ⟨l2, ys, rfl, hl2, rb⟩ := Dq.lst_v rv
      have hlen1 : xs.length + ys.length ≤ sizeLine := by
        have z := congrArg List.length told
        rw [List.length_append] at z
        have q1 := ra.length
        have q2 := rb.length
        rw [List.length_map] at q1 q2
        have q3 : (freshOf (wayP hd ships pr) u).length ≤ (wayP hd ships pr).length := List.length_filter_le ..
        rw [line_big]
        omega
      refine ⟨l1, l2, xs, ys, rfl, rfl, cn.bh _ _ hl1, cn.bh _ _ hl2, hlen1, fun p hp => ?_⟩
      have gp : Gr B5 H5 (upd B5 p (.lst (xs ++ ys))) (upd H5 p (.lst (xs ++ ys))) := .new cn.bh hp
      have k1 := cn.step gp
      have k2 := k2.step gp
      have rt6 : Dq K (upd B5 p (.lst (xs ++ ys))) (.ref p) (eTrips (freshOf (wayP hd ships pr) u)) := by
        rw [← told]
        show Dq K _ _ (.list ((freshOf (wayP hd ships pr) t ++ freshOf (fromT (wayP hd ships pr) t) u).map eTrip))
        rw [List.map_append]
        exact .lst upd_same ((DqAll.up gp.bb _ _ ra).app (DqAll.up gp.bb _ _ rb))
      generalize upd B5 p (.lst (xs ++ ys)) = B6 at gp k1 k2 rt6
      generalize upd H5 p (.lst (xs ++ ys)) = H6 at gp k1 k2
      have s26 := ((g3.bb.trans g4.bb).trans g5.bb).trans gp.bb
      have rp6 := Dq.up (s12.trans s26) _ _ rp
      have hall := co.all u
      have hhr : (conAt hd ships pr u).here.1 = u := (co.at (by omega) hu2.2).hr
      have hmv := co.moves u
      refine ws_one (ws_ifA (t := (!PyData.eqv (eTrips (freshOf (wayP hd ships pr) u)) (eTrips (freshOf (wayP hd ships pr) u))) || ((!PyData.eqv (eTrips (planOf ships (wayP hd ships pr))) (eTrips (planOf ships (wayP hd ships pr)))) || !decide (u = u))) (k1.atT fun C' s ic => xt_w (xw_or (xt_cmp (c_ne hu (trips_shaped _) (trips_shaped _)) (x_var 8 rfl (Dq.up s _ _ rt6)) (XE.data (x_call (y := (planOf ships (wayP hd ships pr), u)) (dn58 T) (hr.mono (by decide)) rfl (XA.imp (P := DDs K [eTrips (planOf ships (wayP hd ships pr)), .int u]) (xd_cons (x_var 6 rfl (Dq.up s _ _ rp6)) (xd_cons (x_var (v := V.int u) 7 rfl (.int _)) xd_nil)) fun C'' vs _ q => ⟨by
          rw [plan_len]
          have := co.wx.wd.sn
          omega, q⟩)) (by rw [hmv])))
        fun _ => xw_or (xt_cmp (c_ne hu (trips_shaped _) (trips_shaped _)) (XE.data (x_meth0 (P1 := IsCon K CS CC (conAt hd ships pr u)) (conAt hd ships pr u) (mt_cplan T C S) C.cls (hr.mono (by decide)) (x_var 4 rfl ic) (fun C'' v _ p => ⟨con_cell p "plan" (fun _ _ _ => rfl), co.planOk u, v, rfl, p⟩)) (by rw [hall]; rfl)) (x_var 6 rfl (Dq.up s _ _ rp6))) fun _ => xw_or1 (xt_cmp (c_neI hu) (XE.data (x_now (pr_now C S) C.cls (hr.mono (by decide)) (x_var 4 rfl ic)) (congrArg PyData.int hhr)) (x_var (v := V.int u) 7 rfl (.int _))))) (fun h => ?_) fun _ B7 H7 g7 => ?_)
      · rw [trips_eqv, trips_eqv] at h
        simp at h
      · exact ws_nil ⟨B7, u, _, _, n1' + 1, rfl, ⟨by omega, hu2.2⟩, by omega, k1.step g7, k2.step g7, Dq.up g7.bb _ _ rt6, ((sB.trans g2.bb).trans s26).trans g7.bb⟩
  · rintro σ' B' H' ⟨t, tv', x9', n1', rfl, ht, hn', k1, k2, rt', sB⟩
    exact tailC L hr hgd lw ht hne hn2 k1 k2 rt'
end
end TW
/-! WL11: the law's first rows; the law. -/
namespace TW
open PySem PySem.Spec PyProof.Rows L2
section
variable {P : Program} {w : World} {K : PySem.W.Frag} {mg : Str → Option Value} {base : Heap} {CS CC CN CL : Addr} {f : Addr} {cdv : Value} {s0 : Shared} {H0 : Hp}
theorem room_ch {k : Nat} {X : Cx} (hc : X.calm = true) (hr : Room k X.A) : CHR k X := .inl ⟨hc, hr⟩
/-- what the law promises with two consoles at hand -/
theorem tailA (L : AllT P K mg CS CC CN CL) (hr : Room 12 (cxL P w K mg base f cdv s0 H0).A) (hgd : (cxL P w K mg base f cdv s0 H0).A.guards = some [])
    {hd : Harb} {ships : List Ship} (lw : LW hd ships (noPr ships)) (hp : hasPlanB hd ships = true) {ds : List Int} (hds : ds.length = 60) (hin : ∀ d ∈ ds, InK d) {B H : Hp} {v0 v1 v2 v3 : V} {c1 dx1 c2 dx2 : Addr} (hne : c1 ≠ c2)
    (con1 : Con K CS CC c1 dx1 (conP hd ships (noPr ships)) 0 B H) (con2 : Con K CS CC c2 dx2 (conP hd ships (noPr ships)) 0 B H) (r1 : Dq K B v1 (eInts ds)) (r2 : Dq K B v2 (eHarb hd)) (r3 : Dq K B v3 (eShips ships)) :
    WSs (cxL P w K mg base f cdv s0 H0) ((defBody (top 62)).drop 3) D62 [some v0, some v1, some v2, some v3, some (.ref c1), some (.ref c2), none, none, none, none, none, none] H := by
  obtain ⟨co, SH, SS, sm⟩ := id lw
  obtain ⟨T, S, C, NW, ne, ⟨qual, TC⟩, noS, xf, exC, exN, mC, mN⟩ := id L
  have hu := un64 hr
  have cut : cutD (ds.map PyData.int) (some 41) (some 43) = ((ds.drop 41).take 2).map PyData.int := cutD_ab (ds := ds) (a := 41) (b := 43) (by decide) (by omega)
  have hcut : ∀ d ∈ (ds.drop 41).take 2, InK d := fun d hd => hin d (List.mem_of_mem_drop (List.mem_of_mem_take hd))
  have hlen : ((ds.drop 41).take 2).length ≤ 2 := by
    rw [List.length_take]
    omega
  refine ws_cons (ws_of (ps_if ptW pssW pssW) (wt_of pwW.pt (ww_of (pw_or ptW pwW) (wt_of (pt_not ptW) (wt_of (pt_val peW (fun _ => rfl)) ?_)))))
  refine we_prom (ds := (ds.drop 41).take 2) (dn57 L) (hr.mono (by decide)) rfl co con1 (x_var 4 rfl rfl) (by
    show XE _ _ _ _ (DD K (.list (((ds.drop 41).take 2).map PyData.int)))
    rw [← cut]
    exact x_sl (x_var 1 rfl r1) x_int x_int) hcut (by omega) fun n1 B1 H1 hn1 g1 k1 => ⟨true, rfl, ?_⟩
  have k2 := con2.other hne.symm g1
  refine iteF (ww_of (pw_or1 ptW) (wt_of (pt_not ptW) (wt_of (pt_val peW (fun _ => rfl)) ?_)))
  refine we_prom (ds := (ds.drop 41).take 2) (dn57 L) (hr.mono (by decide)) rfl co k2 (x_var 5 rfl rfl) (by
    show XE _ _ _ _ (DD K (.list (((ds.drop 41).take 2).map PyData.int)))
    rw [← cut]
    exact x_sl (x_var 1 rfl (Dq.up g1.bb _ _ r1)) x_int x_int) hcut (by omega) fun n2 B2 H2 hn2 g2 k2 => ⟨true, rfl, ?_⟩
  refine iteF (ws_nil ?_)
  have k1 := k1.other hne g2
  have s2 := g1.bb.trans g2.bb
  have co' := ConOk.of ((ds.drop 41).take 2) co
  have sm' := prsm_of (h := hd) (ships := ships) ((ds.drop 41).take 2) sm
  generalize prOf hd ships (noPr ships) ((ds.drop 41).take 2) = pr at k1 k2 co' sm'
  refine ws_cons (ws_if (t := !hasPlanB hd ships) (xt_not (xt_v (x_callC (y := (hd, ships)) (dn61 T) (room_ch rfl (hr.mono (by decide))) rfl (XA.imp (P := DDs K [eHarb hd, eShips ships]) (xd_cons (x_var 2 rfl (Dq.up s2 _ _ r2)) (xd_cons (x_var 3 rfl (Dq.up s2 _ _ r3)) xd_nil)) fun C' vs _ q => ⟨⟨fun s hs => world_tup SH (SS s hs), co.n12⟩, q⟩)))) k1.bh (fun h => ?_) fun _ B3 H3 g3 => ?_)
  · rw [hp] at h
    cases h
  · have k1 := k1.step g3
    have k2 := k2.step g3
    have s3 := s2.trans g3.bb
    refine ws_nil (ws_cons (ws_of (ps_par3 (i := 6) (j := 7) (l := 8) rfl sc62.nd rfl rfl rfl (by decide) (by decide) (by decide) rfl rfl rfl (pa_cons peW (pa_cons peW (pa_cons peW pa_nil))) rfl rfl) ?_))
    have po : PlanOk (conP hd ships pr) := by
      rw [co'.start]
      exact co'.planOk 0
    refine (k1.at0 (d := eTrips (planOf ships (wayP hd ships pr))) fun C' s ic => x_meth0 (P1 := IsCon K CS CC (conP hd ships pr)) (conP hd ships pr) (mt_cplan T C S) C.cls (hr.mono (by decide)) (x_var 4 rfl ic) (fun C'' v _ p => ⟨con_cell p "plan" (fun _ _ _ => rfl), po, v, rfl, p⟩)) _ fun pv B4 H4 g4 p4 => ?_
    refine (x_int (B := B4)) H4 g4.bh _ fun zv B5 H5 g5 p5 => ?_
    obtain rfl := Dq.int_v p5
    refine (x_lst (ds := []) xd_nil (Nat.zero_le _)) H5 g5.bh _ fun tv B6 H6 g6 p6 => ?_
    have s6 := ((s3.trans g4.bb).trans g5.bb).trans g6.bb
    have k1 := ((k1.step g4).step g5).step g6
    have k2 := ((k2.step g4).step g5).step g6
    refine ⟨_, _, _, rfl, ?_⟩
    exact tailB L hr hgd ⟨co', SH, SS, sm'⟩ hds hne (by omega) (by omega) k1 k2 (Dq.up s6 _ _ r1) (Dq.up s6 _ _ r2) (Dq.up (g5.bb.trans g6.bb) _ _ p4) p6
theorem law_body (L : AllT P K mg CS CC CN CL) (hr : Room 12 (cxL P w K mg base f cdv s0 H0).A) (hgd : (cxL P w K mg base f cdv s0 H0).A.guards = some []) {a : Addr} {ns : List Int} (hn : ns.length ≤ 63) {H : Hp} (hS : SqL K H a (ns.map V.int)) :
    WSs (cxL P w K mg base f cdv s0 H0) (defBody (top 62)) D62 (start N62 [.ref a]) H := by
  obtain ⟨T, S, C, NW, ne, ⟨qual, TC⟩, noS, xf, exC, exN, mC, mN⟩ := id L
  refine ws_cons (ws_set (B := H) (P := IsDraws K 60) 1 (x_call (y := ns) (dn54 T) (hr.mono (by decide)) rfl (XA.imp (P := PCons (Is (.ref a)) (PCons (DD K (.int 60)) PNil)) (xp_cons (x_var 0 rfl rfl) (xp_cons x_int xp_nil)) fun C' vs s q => ?_)) (.refl _) (fun dv B1 H1 g1 p1 => ?_) (hN := sc62.nd))
  · obtain ⟨_, r, rfl, rfl, v2, r2, rfl, q2, rfl⟩ := q
    obtain rfl := Dq.int_v q2
    exact ⟨by omega, a, rfl, Same.seq s hS⟩
  · obtain ⟨ds, hds, hin, r1⟩ := p1
    have SH := harb_small ds
    have SS := ships_small ds
    have n12 := ships_len ds
    refine ws_cons (ws_asg (P := DD K (eWorld (harbOf ds, shipsOf ds))) (x_call (y := ds) (dn56 T) (hr.mono (by decide)) rfl (XA.imp (P := DDs K [eInts ds]) (xd_cons (x_var 1 rfl r1) xd_nil) fun C' vs _ q => ⟨hds, q⟩)) g1.bh fun tv B2 H2 g2 p2 => ?_)
    obtain ⟨l, hv, sv, rfl, hq, q2, q3⟩ := tup2 p2
    refine ⟨_, xg_tup rfl hq (xgs_cons (xg_name 2 sc62.nd) (xgs_cons (xg_name 3 sc62.nd) xgs_nil)), ?_⟩
    have r12 := Dq.up g2.bb _ _ r1
    generalize harbOf ds = hd at SH q2
    generalize shipsOf ds = ships at SS n12 q3
    have wx := world_wx SH SS n12
    have nw := world_new SH SS n12
    have wi := way_iff wx n12 (begin_stt wx.wd)
    refine ws_cut (fun σ' H' => ∃ B' c1 dx1 c2 dx2, σ' = [some (.ref a), some dv, some hv, some sv, some (.ref c1), some (.ref c2), none, none, none, none, none, none] ∧ c1 ≠ c2 ∧ Con K CS CC c1 dx1 (conP hd ships (noPr ships)) 0 B' H' ∧ Con K CS CC c2 dx2 (conP hd ships (noPr ships)) 0 B' H' ∧ hasWay hd ships (beginOf ships) (noPr ships) = true ∧ Same B2 B')
      (ws_try_only rfl rfl (c := .ref CN) ⟨rfl, by decide, .inl mN⟩ takesN0 fun pn xe tk hp => ?_) ?_
    · refine ws_one (ws_of (ps_par (i := 4) (j := 5) rfl sc62.nd rfl rfl (by decide) rfl rfl (pa_cons peW (pa_cons peW pa_nil)) rfl rfl) ?_)
      refine we_mkCon (E := fun σ cls d H => wMany _ _ _ _ cls d σ H) (fun σ => L2N.passAt tk σ) (conMk T S C NW) (hr.mono (by decide)) rfl nw (xp_cons (P := DD K (eHarb hd)) (x_var 2 rfl q2) (xp_cons (P := DD K (eShips ships)) (x_var 3 rfl q3) xp_nil)) g2.bh (fun hw c1 dx1 B3 H3 g3 hc1 oc1 => ?_) fun hf d H' s' => ?_
      rotate_left
      · refine ⟨true, exN, fun _ a' _ oe pn' hz hfd => ?_, fun h => nomatch h⟩
        have chs := suite_hot (pn := pn') (a := a') (X := cxL P w K mg base f cdv s0 H0) hr hz hfd
        refine ws_one (ws_ret (P := DD K (.bool (!hasPlanB hd ships))) (x_not (x_callC (y := (hd, ships)) (dn61 T) (chs.mono (by decide)) rfl (XA.imp (P := DDs K [eHarb hd, eShips ships]) (xd_cons (x_var 2 rfl q2) (xd_cons (x_var 3 rfl q3) xd_nil)) fun C' vs _ q => ⟨⟨fun s hs => world_tup SH (SS s hs), n12⟩, q⟩))) (g2.bh.trans s') fun v B3 H3 g3 p3 => ?_)
        rw [← wi, hf] at p3
        exact Dq.bl_v p3
      have k1 : Con K CS CC c1 dx1 (conP hd ships (noPr ships)) 0 B3 H3 := Con.of oc1
      refine we_mkCon (E := fun σ cls d H => wMany _ _ _ _ cls d σ H) (fun σ => L2N.passAt tk σ) (conMk T S C NW) (hr.mono (by decide)) rfl nw (xp_cons (P := DD K (eHarb hd)) (x_var 2 rfl (Dq.up g3.bb _ _ q2)) (xp_cons (P := DD K (eShips ships)) (x_var 3 rfl (Dq.up g3.bb _ _ q3)) xp_nil)) g3.bh (fun _ c2 dx2 B4 H4 g4 hc2 oc2 => ?_) fun hf d H' s' => by
        rw [hw] at hf
        cases hf
      have k2 : Con K CS CC c2 dx2 (conP hd ships (noPr ships)) 0 B4 H4 := Con.of oc2
      refine ⟨_, _, rfl, B4, c1, dx1, c2, dx2, rfl, ?_, k1.step g4, k2, hw, g3.bb.trans g4.bb⟩
      rintro rfl
      exact k1.live hc2
    · rintro σ' H' ⟨B', c1, dx1, c2, dx2, rfl, hne, k1, k2, hw, sB⟩
      have co : ConOk hd ships (noPr ships) := ⟨wx, n12, by unfold noPr; rw [List.length_map], fun z => by
        unfold hasWay at hw
        rw [z] at hw
        cases hw⟩
      refine tailA L hr hgd ⟨co, SH, SS, prsm_no ships⟩ (by rw [← wi]; exact hw) hds hin hne k1 k2 (Dq.up sB _ _ r12) (Dq.up sB _ _ q2) (Dq.up sB _ _ q3)
theorem law_ok (L : AllT P K mg CS CC CN CL) {fa : Addr} {fd : FuncData} (F : Fun K "law" "law" (top 62) fa fd) : LawAt P w K mg fa := by
  exact law_at F sc62 (k := 12) ⟨rfl, by decide, by decide⟩ (F.binds fun _ _ _ _ _ _ us hl => match us, hl with | [_], _ => rfl) fun base cdv s H a ns hKb hns hr hl hS => law_body L hr rfl hl hS
end
end TW
set_option maxHeartbeats 4000000
/-! WZ1: what the look says. -/
namespace TW
open PySem PySem.Spec PyProof.Rows L2
theorem fdZ_ok {K : PySem.W.Frag} {a : Addr} {fd : FuncData} (h : fdZ K a = some fd) : ∃ oc od osl, K.lookup a = some ⟨oc, od, .func fd, osl⟩ := by
  unfold fdZ at h
  split at h
  · rename_i oc od fd' osl e
    cases h
    exact ⟨_, _, _, e⟩
  · cases h
/-- what is told of such a def -/
structure OutZ (K : PySem.W.Frag) (a : Addr) (name qual : Str) (st : Stmt) (clo : List Str) (fd : FuncData) : Prop where
  fn : PySem.W.isFn K (.ref a) = true
  kp : PySem.W.keepIn K (.ref a) = true
  at_ : fdZ K a = some fd
  cd : PySem.W.codeIn K fd.code qual = true
  eq : ∃ (kV doc pm : Value) (an : Option Addr) (cdv ct : Value) (cl : List (Str × Addr)), cl.map (·.1) = clo ∧ fd = PySem.W.fnX name qual (defArgs st) (defBody st) (defScope st) cl .none kV doc pm an cdv ct
theorem lookZ_out {K : PySem.W.Frag} {e : Bool} {a : Addr} {name qual : Str} {st : Stmt} {clo : List Str} (h : lookZ K e qual a = (true, valF name qual st clo)) : e = true ∧ ∃ fd, OutZ K a name qual st clo fd := by
  unfold lookZ at h
  cases q : fdZ K a with
  | none =>
    rw [q] at h
    cases h
  | some fd =>
    rw [q] at h
    obtain ⟨c, e2⟩ := Prod.mk.inj h
    obtain ⟨c0, c⟩ := Bool.and_eq_true_iff.mp c
    obtain ⟨c1, c⟩ := Bool.and_eq_true_iff.mp c
    obtain ⟨c2, c⟩ := Bool.and_eq_true_iff.mp c
    obtain ⟨c3, c4⟩ := Bool.and_eq_true_iff.mp c
    refine ⟨c0, fd, c1, c2, q, c3, ?_⟩
    obtain ⟨n1, n2, n3, n4, n5, n6, n7, n8, n9, n10, n11, n12, n13, n14, n15⟩ := fd
    have e3 : ((n1, n2, n3, n4, n5, n6, n7.map (·.1), n15) : Str × Str × Arguments × FuncBody × Scope × Addr × List Str × Addr) = (name, qual, defArgs st, .stmts (defBody st), defScope st, mainGlobals, clo, builtinsNs) := Option.some.inj e2
    simp only [Prod.mk.injEq] at e3
    obtain ⟨h1, h2, h3, h4, h5, h6, h7, h8⟩ := e3
    have h9 : n8 = .none := by
      cases n8 <;> first | rfl | cases c4
    subst h1 h2 h3 h4 h5 h6 h8 h9
    exact ⟨_, _, _, _, _, _, n7, h7, rfl⟩
theorem OutZ.fun_ {K : PySem.W.Frag} {a : Addr} {name qual : Str} {st : Stmt} {fd : FuncData} (h : OutZ K a name qual st [] fd) : Fun K name qual st a fd := by
  obtain ⟨kV, doc, pm, an, cdv, ct, cl, e1, e2⟩ := h.eq
  obtain ⟨oc, od, osl, lk⟩ := fdZ_ok h.at_
  have e3 : cl = [] := List.map_eq_nil_iff.mp e1
  subst e3
  have cd := h.cd
  rw [e2] at cd
  exact ⟨⟨oc, od, kV, doc, pm, an, cdv, ct, osl, e2, lk, cd⟩, h.kp⟩
theorem GZ.out {K : PySem.W.Frag} {d : GZ} (h : d.obs K = d.val) : ∃ a fd, PySem.W.nsIn K mainGlobals d.x = some (some (.ref a)) ∧ OutZ K a d.q d.q d.st [] fd := by
  unfold GZ.obs GZ.val at h
  split at h
  · rename_i a e
    rw [HandSHeadRun.frNat_eq] at h
    obtain ⟨_, fd, o⟩ := lookZ_out h
    exact ⟨a, fd, e, o⟩
  · cases h
theorem MZ.out {K : PySem.W.Frag} {C : Addr} {d : MZ} (h : d.obs K C = d.val) : ∃ a fd, PySem.W.findIn K (.ref C) d.m = some (some (.ref a)) ∧ OutZ K a d.m d.q d.st [] fd := by
  unfold MZ.obs MZ.val at h
  split at h
  · rename_i a e
    rw [HandSHeadRun.frNat_eq] at h
    obtain ⟨_, fd, o⟩ := lookZ_out h
    exact ⟨a, fd, e, o⟩
  · cases h
theorem propO_out {K : PySem.W.Frag} {C : Addr} {f q : Str} {st : Stmt} (h : propO K C f q = (true, valF f q st [])) : ∃ p g fd, PropOf K C f p g ∧ Fun K f q st g fd := by
  unfold propO at h
  split at h
  · rename_i p e
    rw [HandSHeadRun.frNat_eq] at h
    split at h
    · rename_i g r e2
      rw [HandSHeadRun.frNat_eq] at h
      obtain ⟨h0, fd, o⟩ := lookZ_out h
      obtain ⟨h1, h2⟩ := Bool.and_eq_true_iff.mp h0
      exact ⟨p, g, fd, ⟨e, He.eqO_ok h1, of_decide_eq_true h2, r, e2⟩, o.fun_⟩
    · cases h
  · cases h
/-! ### constants -/
theorem ptZ_ok {K : PySem.W.Frag} {p : Int × Int} {u : Value} (h : ptZ K p u = true) : ∃ v, RelV v u ∧ ∀ B, Dq K B v (ePair p) := by
  unfold ptZ at h
  split at h
  · rename_i a
    split at h
    · rename_i t od its n sl e
      obtain ⟨h1, h⟩ := Bool.and_eq_true_iff.mp h
      obtain ⟨h2, h3⟩ := Bool.and_eq_true_iff.mp h
      exact ⟨.ref a, rfl, fun B => .tup (.inr ⟨_, its, n, e, congrArg Value.type (of_decide_eq_true h1), rfl, of_decide_eq_true h2, He.relAll_ok h3⟩) (.cons (.int _) (.cons (.int _) .nil))⟩
    · cases h
  · cases h
theorem ptsZ_ok {K : PySem.W.Frag} : ∀ {ps : List (Int × Int)} {us : List Value}, ptsZ K ps us = true → ∃ vs, Vals vs us ∧ ∀ B, DqAll K B vs (ps.map ePair)
  | [], [], _ => ⟨[], .nil, fun _ => .nil⟩
  | [], _ :: _, h => by cases h
  | _ :: _, [], h => by cases h
  | p :: ps, u :: us, h => by
    obtain ⟨h1, h2⟩ := Bool.and_eq_true_iff.mp (show (ptZ K p u && ptsZ K ps us) = true from h)
    obtain ⟨v, r, d⟩ := ptZ_ok h1
    obtain ⟨vs, rs, ds⟩ := ptsZ_ok h2
    exact ⟨v :: vs, .cons r rs, fun B => .cons (d B) (ds B)⟩
section
variable {K : PySem.W.Frag} {h : Heap} {mg : Str → Option Value}
theorem intZ_con (X : K.In h) (G : h.Ns mainGlobals mg) {x : Str} {i : Int} (c : intZ K x i = true) : ConX K mg x (.int i) := by
  unfold intZ at c
  split at c
  · rename_i j t e
    have ej : j = i := of_decide_eq_true c
    subst ej
    exact ⟨.int j, _, PySem.W.mg_of X G e, ⟨t, rfl⟩, fun B => .int j⟩
  · cases c
theorem pairZ_con (X : K.In h) (G : h.Ns mainGlobals mg) {x : Str} {p : Int × Int} (c : pairZ K x p = true) : ConX K mg x (ePair p) := by
  unfold pairZ at c
  split at c
  · rename_i u e
    obtain ⟨v, r, d⟩ := ptZ_ok c
    exact ⟨v, u, PySem.W.mg_of X G e, r, d⟩
  · cases c
theorem tabZ_con (X : K.In h) (G : h.Ns mainGlobals mg) {x : Str} {ps : List (Int × Int)} (c : tabZ K x ps = true) : ConX K mg x (.tuple (ps.map ePair)) := by
  unfold tabZ at c
  split at c
  · rename_i a e
    split at c
    · rename_i t od its n sl q
      obtain ⟨h1, c⟩ := Bool.and_eq_true_iff.mp c
      obtain ⟨h2, h3⟩ := Bool.and_eq_true_iff.mp c
      obtain ⟨vs, rs, ds⟩ := ptsZ_ok h3
      exact ⟨.ref a, _, PySem.W.mg_of X G e, rfl, fun B => .tup (.inr ⟨_, its, n, q, congrArg Value.type (of_decide_eq_true h1), rfl, of_decide_eq_true h2, rs⟩) (ds B)⟩
    · cases c
  · cases c
theorem noZ {C : Addr} {fs : List Str} (c : noB K C fs = true) : ∀ f ∈ fs, NoAttr K C f := fun f hf => He.eqO_ok (List.all_eq_true.mp c f hf)
theorem clsZ_ok {C : Addr} (c : clsZ K C = true) : Cls K C := by
  obtain ⟨c1, c⟩ := Bool.and_eq_true_iff.mp c
  obtain ⟨c2, c⟩ := Bool.and_eq_true_iff.mp c
  obtain ⟨c3, c4⟩ := Bool.and_eq_true_iff.mp c
  exact ⟨c1, c2, c3, He.eqO_ok c4⟩
end
/-! ### an own exception's class -/
theorem oexZ_ok {K : PySem.W.Frag} {C : Addr} (h : oexZ K C = true) : ∃ nm q N bs bm sn sub ab col dd k0 k1 k2 k3 k5, K.lookup C = some (excClassObj nm q C N bs bm true sn sub ab col dd k0 k1 k2 k3 k5 "ValueError.__new__") ∧ PySem.HandSPX.refsVE bm = true := by
  unfold oexZ at h
  split at h
  · rename_i t od cd sl e
    obtain ⟨nm, bs, mro, ns, qn, hd, sn, sb, ab, col, del⟩ := cd
    obtain ⟨h1, h⟩ := Bool.and_eq_true_iff.mp h
    obtain ⟨h2, h⟩ := Bool.and_eq_true_iff.mp h
    obtain ⟨h3, h⟩ := Bool.and_eq_true_iff.mp h
    obtain ⟨h4, h5⟩ := Bool.and_eq_true_iff.mp h
    have e1 : t = "type" := of_decide_eq_true h1
    have e3 : hd = true := h3
    have e4 : del = false := by
      cases del
      · rfl
      · cases h4
    subst e1 e3 e4
    split at h2
    · rename_i c bm em
      obtain ⟨h6, h7⟩ := Bool.and_eq_true_iff.mp h2
      have e6 : c = C := of_decide_eq_true h6
      have em' : mro = .ref c :: bm := em
      subst e6 em'
      split at h5
      · rename_i k0 k1 k2 k3 n k5 es
        have e8 : n = "ValueError.__new__" := of_decide_eq_true h5
        subst e8
        have e9 : sl = #[k0, k1, k2, k3, some (.builtin "ValueError.__new__"), k5] := by
          have q := congrArg List.toArray es
          simpa using q
        subst e9
        exact ⟨nm, qn, ns, bs, bm, sn, sb, ab, col, od, k0, k1, k2, k3, k5, e, h7⟩
      · cases h5
    · cases h2
  · cases h
/-- the look as it is told, the classes' places by names -/
def SaysY (K : PySem.W.Frag) (CS CC CN CL : Addr) : Prop := obsY K CS CC CN CL = valZ
theorem SaysZ.y {K : PySem.W.Frag} (c : SaysZ K) : SaysY K (He.ga K "State") (He.ga K "Console") (He.ga K "NoWay") (He.ga K "Clash") := by
  have c' : obsZ K = valZ := c
  unfold obsZ at c'
  simp only [HandSHeadRun.frNat_eq] at c'
  exact c'
section
variable {K : PySem.W.Frag} {h : Heap} {mg : Str → Option Value} {CS CC CN CL : Addr}
theorem SaysY.parts (c : SaysY K CS CC CN CL) : zxZ.all (fun f => f K CS CC CN CL) = true ∧ gzZ.map (fun d => d.obs K) = gzZ.map GZ.val ∧ msZ.map (fun d => d.obs K CS) = msZ.map MZ.val ∧ mcZ.map (fun d => d.obs K CC) = mcZ.map MZ.val ∧
    propO K CC "now" "Console.now" = (true, valF "now" "Console.now" (methZ 52 21) []) ∧ extO K CN fileZ "NoWay.__init__" = (true, valF "__init__" "NoWay.__init__" (methZ 8 0) ["__class__"]) ∧ extO K CL fileZ "Clash.__init__" = (true, valF "__init__" "Clash.__init__" (methZ 10 0) ["__class__"]) := by
  obtain ⟨h1, h⟩ := Prod.mk.inj (show obsY K CS CC CN CL = valZ from c)
  obtain ⟨h2, h⟩ := Prod.mk.inj h
  obtain ⟨h3, h⟩ := Prod.mk.inj h
  obtain ⟨h4, h⟩ := Prod.mk.inj h
  obtain ⟨h5, h⟩ := List.cons.inj h
  obtain ⟨h6, h⟩ := List.cons.inj h
  obtain ⟨h7, h⟩ := List.cons.inj h
  exact ⟨h1, h2, h3, h4, h5, h6, h7⟩
theorem SaysY.more (c : SaysY K CS CC CN CL) (i : Nat) {f : PySem.W.Frag → Addr → Addr → Addr → Addr → Bool} (e : zxZ[i]? = some f) : f K CS CC CN CL = true := List.all_eq_true.mp c.parts.1 f (List.mem_of_getElem? e)
theorem map_at {α β : Type} {l : List α} {f g : α → β} (e : l.map f = l.map g) {i : Nat} {d : α} (h : l[i]? = some d) : f d = g d := by
  have e2 : (l.map f)[i]? = (l.map g)[i]? := by rw [e]
  rw [List.getElem?_map, List.getElem?_map, h] at e2
  exact Option.some.inj e2
theorem SaysY.funX (X : K.In h) (G : h.Ns mainGlobals mg) (c : SaysY K CS CC CN CL) (i : Nat) {d : GZ} (e : gzZ[i]? = some d) : FunX K mg d.x d.q d.st := by
  obtain ⟨a, fd, h1, o⟩ := GZ.out (map_at c.parts.2.1 e)
  exact ⟨⟨a, fd, o.fun_, PySem.W.mg_of X G h1⟩⟩
theorem SaysY.metS (c : SaysY K CS CC CN CL) (i : Nat) {d : MZ} (e : msZ[i]? = some d) : ∃ f fd, Meth K CS d.m f ∧ Fun K d.m d.q d.st f fd := by
  obtain ⟨a, fd, h1, o⟩ := MZ.out (map_at c.parts.2.2.1 e)
  exact ⟨a, fd, ⟨h1, o.fn, o.kp⟩, o.fun_⟩
theorem SaysY.metC (c : SaysY K CS CC CN CL) (i : Nat) {d : MZ} (e : mcZ[i]? = some d) : ∃ f fd, Meth K CC d.m f ∧ Fun K d.m d.q d.st f fd := by
  obtain ⟨a, fd, h1, o⟩ := MZ.out (map_at c.parts.2.2.2.1 e)
  exact ⟨a, fd, ⟨h1, o.fn, o.kp⟩, o.fun_⟩
theorem SaysY.metS_mk (c : SaysY K CS CC CN CL) (m : mkZ K CS = true) (i : Nat) {d : MZ} (e : msZ[i]? = some d) (hi : d.m = "__init__") : ∃ f fd, Mk K CS f ∧ Fun K d.m d.q d.st f fd := by
  obtain ⟨f, fd, h1, F⟩ := c.metS i e
  obtain ⟨m1, m2⟩ := Bool.and_eq_true_iff.mp m
  exact ⟨f, fd, ⟨m1, by rw [← hi]; exact h1.at_, h1.fn, m2⟩, F⟩
theorem SaysY.metC_mk (c : SaysY K CS CC CN CL) (m : mkZ K CC = true) (i : Nat) {d : MZ} (e : mcZ[i]? = some d) (hi : d.m = "__init__") : ∃ f fd, Mk K CC f ∧ Fun K d.m d.q d.st f fd := by
  obtain ⟨f, fd, h1, F⟩ := c.metC i e
  obtain ⟨m1, m2⟩ := Bool.and_eq_true_iff.mp m
  exact ⟨f, fd, ⟨m1, by rw [← hi]; exact h1.at_, h1.fn, m2⟩, F⟩
theorem SaysY.prop_ (c : SaysY K CS CC CN CL) : ∃ p f fd, PropOf K CC "now" p f ∧ Fun K "now" "Console.now" (methZ 52 21) f fd := propO_out c.parts.2.2.2.2.1
theorem SaysY.ext1 (c : SaysY K CS CC CN CL) : extO K CN fileZ "NoWay.__init__" = (true, valF "__init__" "NoWay.__init__" (methZ 8 0) ["__class__"]) := c.parts.2.2.2.2.2.1
theorem SaysY.ext2 (c : SaysY K CS CC CN CL) : extO K CL fileZ "Clash.__init__" = (true, valF "__init__" "Clash.__init__" (methZ 10 0) ["__class__"]) := c.parts.2.2.2.2.2.2
theorem extZ_ok {x q : Str} {st : Stmt} {P : Program} {C : Addr} (hm : mg x = some (.ref C)) (h : extO K C P.main.file q = (true, valF "__init__" q st ["__class__"])) (ns : mg "super" = none) (nt : (P.main.scope.names.lookup ("super" : Str)).isSome = false := by rfl) : ExT P K mg x q st C := by
  unfold extO at h
  split at h
  · rename_i f ef
    rw [HandSHeadRun.frNat_eq] at h
    obtain ⟨h, fd, o⟩ := lookZ_out h
    obtain ⟨h1, h⟩ := Bool.and_eq_true_iff.mp h
    obtain ⟨h2, h⟩ := Bool.and_eq_true_iff.mp h
    obtain ⟨h3, h⟩ := Bool.and_eq_true_iff.mp h
    obtain ⟨h4, h⟩ := Bool.and_eq_true_iff.mp h
    obtain ⟨h5, h⟩ := Bool.and_eq_true_iff.mp h
    obtain ⟨h6, h⟩ := Bool.and_eq_true_iff.mp h
    obtain ⟨h7, h⟩ := Bool.and_eq_true_iff.mp h
    obtain ⟨h8, h⟩ := Bool.and_eq_true_iff.mp h
    obtain ⟨h9, h12⟩ := Bool.and_eq_true_iff.mp h
    refine ⟨hm, ⟨oexZ_ok h1, He.eqO_ok h2, of_decide_eq_true h3, of_decide_eq_true h4, h5⟩, of_decide_eq_true h6, He.eqO_ok h7, He.eqO_ok h8, of_decide_eq_true h9, ?_, nt, ns⟩
    rw [o.at_] at h12
    obtain ⟨h13, h14⟩ := Bool.and_eq_true_iff.mp (show (cellZ K C fd.closure && srcZ K P.main.file fd.code) = true from h12)
    obtain ⟨oc, od, osl, lk⟩ := fdZ_ok o.at_
    obtain ⟨kV, doc, pm, an, cdv, ct, cl, e1, e2⟩ := o.eq
    have cd := o.cd
    have fn : PySem.W.typeIn K (.ref f) = some (.type "function") := beq_iff_eq.mp o.fn
    subst e2
    have h13' : cellZ K C cl = true := h13
    have h14' : srcZ K P.main.file cdv = true := h14
    unfold cellZ at h13'
    unfold srcZ at h14'
    split at h13'
    · rename_i nm cc
      split at h13'
      · rename_i a1 a2 c a3 ec
        have e6 : c = C := of_decide_eq_true h13'
        split at h14'
        · rename_i cda
          split at h14'
          · rename_i b1 b2 vs b3 eb
            split at h14'
            · rename_i s tf ev
              have e7 : s = P.main.file := of_decide_eq_true h14'
              have en : nm = "__class__" := (List.cons.inj (show [nm] = (["__class__"] : List Str) from e1)).1
              rw [e6] at ec
              rw [e7] at ev
              subst en
              exact ⟨_, cc, cda, _, _, _, kV, doc, pm, ct, od, _, _, an, _, _, _, vs, tf, ef, fn, lk, cd, ec, eb, ev⟩
            · cases h14'
          · cases h14'
        · cases h14'
      · cases h13'
    · cases h13'
  · cases h
theorem txt_Z (X : K.In h) (G : h.Ns mainGlobals mg) (c : SaysY K CS CC CN CL) : Txt K mg where
  b_len := PySem.W.mg_none_of X G (He.eqO_ok (List.all_eq_true.mp (c.more 0 (f := fun K CS CC CN CL => (["len", "all", "any", "sum", "min", "max", "int", "isinstance", "bool", "tuple", "list", "set", "sorted", "reversed", "enumerate", "zip", "range", "repr", "super"] : List Str).all (freeZ K)) rfl) "len" (List.mem_of_getElem? (i := 0) rfl)))
  b_all := PySem.W.mg_none_of X G (He.eqO_ok (List.all_eq_true.mp (c.more 0 (f := fun K CS CC CN CL => (["len", "all", "any", "sum", "min", "max", "int", "isinstance", "bool", "tuple", "list", "set", "sorted", "reversed", "enumerate", "zip", "range", "repr", "super"] : List Str).all (freeZ K)) rfl) "all" (List.mem_of_getElem? (i := 1) rfl)))
  b_any := PySem.W.mg_none_of X G (He.eqO_ok (List.all_eq_true.mp (c.more 0 (f := fun K CS CC CN CL => (["len", "all", "any", "sum", "min", "max", "int", "isinstance", "bool", "tuple", "list", "set", "sorted", "reversed", "enumerate", "zip", "range", "repr", "super"] : List Str).all (freeZ K)) rfl) "any" (List.mem_of_getElem? (i := 2) rfl)))
  b_sum := PySem.W.mg_none_of X G (He.eqO_ok (List.all_eq_true.mp (c.more 0 (f := fun K CS CC CN CL => (["len", "all", "any", "sum", "min", "max", "int", "isinstance", "bool", "tuple", "list", "set", "sorted", "reversed", "enumerate", "zip", "range", "repr", "super"] : List Str).all (freeZ K)) rfl) "sum" (List.mem_of_getElem? (i := 3) rfl)))
  b_min := PySem.W.mg_none_of X G (He.eqO_ok (List.all_eq_true.mp (c.more 0 (f := fun K CS CC CN CL => (["len", "all", "any", "sum", "min", "max", "int", "isinstance", "bool", "tuple", "list", "set", "sorted", "reversed", "enumerate", "zip", "range", "repr", "super"] : List Str).all (freeZ K)) rfl) "min" (List.mem_of_getElem? (i := 4) rfl)))
  b_max := PySem.W.mg_none_of X G (He.eqO_ok (List.all_eq_true.mp (c.more 0 (f := fun K CS CC CN CL => (["len", "all", "any", "sum", "min", "max", "int", "isinstance", "bool", "tuple", "list", "set", "sorted", "reversed", "enumerate", "zip", "range", "repr", "super"] : List Str).all (freeZ K)) rfl) "max" (List.mem_of_getElem? (i := 5) rfl)))
  b_int := PySem.W.mg_none_of X G (He.eqO_ok (List.all_eq_true.mp (c.more 0 (f := fun K CS CC CN CL => (["len", "all", "any", "sum", "min", "max", "int", "isinstance", "bool", "tuple", "list", "set", "sorted", "reversed", "enumerate", "zip", "range", "repr", "super"] : List Str).all (freeZ K)) rfl) "int" (List.mem_of_getElem? (i := 6) rfl)))
  b_isinstance := PySem.W.mg_none_of X G (He.eqO_ok (List.all_eq_true.mp (c.more 0 (f := fun K CS CC CN CL => (["len", "all", "any", "sum", "min", "max", "int", "isinstance", "bool", "tuple", "list", "set", "sorted", "reversed", "enumerate", "zip", "range", "repr", "super"] : List Str).all (freeZ K)) rfl) "isinstance" (List.mem_of_getElem? (i := 7) rfl)))
  b_bool := PySem.W.mg_none_of X G (He.eqO_ok (List.all_eq_true.mp (c.more 0 (f := fun K CS CC CN CL => (["len", "all", "any", "sum", "min", "max", "int", "isinstance", "bool", "tuple", "list", "set", "sorted", "reversed", "enumerate", "zip", "range", "repr", "super"] : List Str).all (freeZ K)) rfl) "bool" (List.mem_of_getElem? (i := 8) rfl)))
  b_tuple := PySem.W.mg_none_of X G (He.eqO_ok (List.all_eq_true.mp (c.more 0 (f := fun K CS CC CN CL => (["len", "all", "any", "sum", "min", "max", "int", "isinstance", "bool", "tuple", "list", "set", "sorted", "reversed", "enumerate", "zip", "range", "repr", "super"] : List Str).all (freeZ K)) rfl) "tuple" (List.mem_of_getElem? (i := 9) rfl)))
  b_list := PySem.W.mg_none_of X G (He.eqO_ok (List.all_eq_true.mp (c.more 0 (f := fun K CS CC CN CL => (["len", "all", "any", "sum", "min", "max", "int", "isinstance", "bool", "tuple", "list", "set", "sorted", "reversed", "enumerate", "zip", "range", "repr", "super"] : List Str).all (freeZ K)) rfl) "list" (List.mem_of_getElem? (i := 10) rfl)))
  b_set := PySem.W.mg_none_of X G (He.eqO_ok (List.all_eq_true.mp (c.more 0 (f := fun K CS CC CN CL => (["len", "all", "any", "sum", "min", "max", "int", "isinstance", "bool", "tuple", "list", "set", "sorted", "reversed", "enumerate", "zip", "range", "repr", "super"] : List Str).all (freeZ K)) rfl) "set" (List.mem_of_getElem? (i := 11) rfl)))
  b_sorted := PySem.W.mg_none_of X G (He.eqO_ok (List.all_eq_true.mp (c.more 0 (f := fun K CS CC CN CL => (["len", "all", "any", "sum", "min", "max", "int", "isinstance", "bool", "tuple", "list", "set", "sorted", "reversed", "enumerate", "zip", "range", "repr", "super"] : List Str).all (freeZ K)) rfl) "sorted" (List.mem_of_getElem? (i := 12) rfl)))
  b_reversed := PySem.W.mg_none_of X G (He.eqO_ok (List.all_eq_true.mp (c.more 0 (f := fun K CS CC CN CL => (["len", "all", "any", "sum", "min", "max", "int", "isinstance", "bool", "tuple", "list", "set", "sorted", "reversed", "enumerate", "zip", "range", "repr", "super"] : List Str).all (freeZ K)) rfl) "reversed" (List.mem_of_getElem? (i := 13) rfl)))
  b_enumerate := PySem.W.mg_none_of X G (He.eqO_ok (List.all_eq_true.mp (c.more 0 (f := fun K CS CC CN CL => (["len", "all", "any", "sum", "min", "max", "int", "isinstance", "bool", "tuple", "list", "set", "sorted", "reversed", "enumerate", "zip", "range", "repr", "super"] : List Str).all (freeZ K)) rfl) "enumerate" (List.mem_of_getElem? (i := 14) rfl)))
  b_zip := PySem.W.mg_none_of X G (He.eqO_ok (List.all_eq_true.mp (c.more 0 (f := fun K CS CC CN CL => (["len", "all", "any", "sum", "min", "max", "int", "isinstance", "bool", "tuple", "list", "set", "sorted", "reversed", "enumerate", "zip", "range", "repr", "super"] : List Str).all (freeZ K)) rfl) "zip" (List.mem_of_getElem? (i := 15) rfl)))
  b_range := PySem.W.mg_none_of X G (He.eqO_ok (List.all_eq_true.mp (c.more 0 (f := fun K CS CC CN CL => (["len", "all", "any", "sum", "min", "max", "int", "isinstance", "bool", "tuple", "list", "set", "sorted", "reversed", "enumerate", "zip", "range", "repr", "super"] : List Str).all (freeZ K)) rfl) "range" (List.mem_of_getElem? (i := 16) rfl)))
  b_repr := PySem.W.mg_none_of X G (He.eqO_ok (List.all_eq_true.mp (c.more 0 (f := fun K CS CC CN CL => (["len", "all", "any", "sum", "min", "max", "int", "isinstance", "bool", "tuple", "list", "set", "sorted", "reversed", "enumerate", "zip", "range", "repr", "super"] : List Str).all (freeZ K)) rfl) "repr" (List.mem_of_getElem? (i := 17) rfl)))
  f13 := c.funX X G 0 (d := ⟨"is_within", "is_within", topZ 13⟩) rfl
  f14 := c.funX X G 1 (d := ⟨"check_row", "check_row", topZ 14⟩) rfl
  f15 := c.funX X G 2 (d := ⟨"check_harbour", "check_harbour", topZ 15⟩) rfl
  f16 := c.funX X G 3 (d := ⟨"check_ships", "check_ships", topZ 16⟩) rfl
  f17 := c.funX X G 4 (d := ⟨"depth_at", "depth_at", topZ 17⟩) rfl
  f18 := c.funX X G 5 (d := ⟨"waits", "waits", topZ 18⟩) rfl
  f19 := c.funX X G 6 (d := ⟨"cost_of", "cost_of", topZ 19⟩) rfl
  f23 := c.funX X G 7 (d := ⟨"beginning", "beginning", topZ 23⟩) rfl
  f24 := c.funX X G 8 (d := ⟨"is_end_best", "is_end", topZ 24⟩) rfl
  f26 := c.funX X G 9 (d := ⟨"berths_for", "berths_for", topZ 26⟩) rfl
  f27 := c.funX X G 10 (d := ⟨"choices", "choices", topZ 27⟩) rfl
  f28 := c.funX X G 11 (d := ⟨"is_kept", "is_kept", topZ 28⟩) rfl
  f29 := c.funX X G 12 (d := ⟨"is_let", "is_let", topZ 29⟩) rfl
  f30 := c.funX X G 13 (d := ⟨"moves_in", "moves_in", topZ 30⟩) rfl
  f31 := c.funX X G 14 (d := ⟨"cost_in", "cost_in", topZ 31⟩) rfl
  f32 := c.funX X G 15 (d := ⟨"after_moves", "after_moves", topZ 32⟩) rfl
  f33 := c.funX X G 16 (d := ⟨"ways_in", "ways_in", topZ 33⟩) rfl
  f34 := c.funX X G 17 (d := ⟨"grown", "grown", topZ 34⟩) rfl
  f35 := c.funX X G 18 (d := ⟨"least", "least", topZ 35⟩) rfl
  f36 := c.funX X G 19 (d := ⟨"added", "added", topZ 36⟩) rfl
  f37 := c.funX X G 20 (d := ⟨"rests_in", "rests_in", topZ 37⟩) rfl
  f38 := c.funX X G 21 (d := ⟨"rest_of", "rest_of", topZ 38⟩) rfl
  f39 := c.funX X G 22 (d := ⟨"ways_on", "ways_on", topZ 39⟩) rfl
  f40 := c.funX X G 23 (d := ⟨"best_moves", "best_moves", topZ 40⟩) rfl
  f45 := c.funX X G 24 (d := ⟨"is_end_console", "is_end", topZ 45⟩) rfl
  f47 := c.funX X G 25 (d := ⟨"has_way", "has_way", topZ 47⟩) rfl
  f48 := c.funX X G 26 (d := ⟨"kept_alone", "kept_alone", topZ 48⟩) rfl
  f49 := c.funX X G 27 (d := ⟨"clash_of", "clash_of", topZ 49⟩) rfl
  f50 := c.funX X G 28 (d := ⟨"way_on", "way_on", topZ 50⟩) rfl
  f54 := c.funX X G 29 (d := ⟨"_law_draws", "_law_draws", topZ 54⟩) rfl
  f55 := c.funX X G 30 (d := ⟨"_law_small", "_law_small", topZ 55⟩) rfl
  f56 := c.funX X G 31 (d := ⟨"_law_world", "_law_world", topZ 56⟩) rfl
  f57 := c.funX X G 32 (d := ⟨"_law_promised", "_law_promised", topZ 57⟩) rfl
  f58 := c.funX X G 33 (d := ⟨"_law_moves", "_law_moves", topZ 58⟩) rfl
  f59 := c.funX X G 34 (d := ⟨"_law_tuples", "_law_tuples", topZ 59⟩) rfl
  f60 := c.funX X G 35 (d := ⟨"_law_beside", "_law_beside", topZ 60⟩) rfl
  f61 := c.funX X G 36 (d := ⟨"_law_has_plan", "_law_has_plan", topZ 61⟩) rfl
  c_SEA_best := pairZ_con X G (c.more 1 (f := fun K CS CC CN CL => pairZ K "SEA_best" (-1, 0)) rfl)
  c_GONE_best := pairZ_con X G (c.more 2 (f := fun K CS CC CN CL => pairZ K "GONE_best" (-2, 0)) rfl)
  c_SEA_console := pairZ_con X G (c.more 3 (f := fun K CS CC CN CL => pairZ K "SEA_console" (-1, 0)) rfl)
  c_GONE_console := pairZ_con X G (c.more 4 (f := fun K CS CC CN CL => pairZ K "GONE_console" (-2, 0)) rfl)
  c_MOST_SHIPS := intZ_con X G (c.more 5 (f := fun K CS CC CN CL => intZ K "MOST_SHIPS" 3) rfl)
  c_BOUNDS := tabZ_con X G (c.more 6 (f := fun K CS CC CN CL => tabZ K "BOUNDS" bndsZ) rfl)
  g_comb := PySem.W.mg_of X G (He.eqO_ok (c.more 7 (f := fun K CS CC CN CL => He.eqO (PySem.W.nsIn K mainGlobals "combinations") (some (some (.type "itertools.combinations")))) rfl))
  i_int := of_decide_eq_true (c.more 8 (f := fun K CS CC CN CL => decide (PySem.W.kitOne K (.type "int") (.type "int") = some true)) rfl)
  i_bool := of_decide_eq_true (c.more 9 (f := fun K CS CC CN CL => decide (PySem.W.kitOne K (.type "int") (.type "bool") = some false)) rfl)
theorem txtS_Z (X : K.In h) (G : h.Ns mainGlobals mg) (c : SaysY K CS CC CN CL) : TxtS K mg CS where
  mg_ := (PySem.W.mg_of X G (He.eqO_ok (c.more 10 (f := fun K CS CC CN CL => gloZ K "State" CS) rfl)))
  cls := clsZ_ok (c.more 11 (f := fun K CS CC CN CL => clsZ K CS) rfl)
  ini := c.metS_mk (c.more 12 (f := fun K CS CC CN CL => mkZ K CS) rfl) 0 (d := ⟨"__init__", "State.__init__", methZ 51 0⟩) rfl rfl
  no := noZ (c.more 13 (f := fun K CS CC CN CL => noB K CS ["harbour", "ships", "here", "done", "promises", "way"]) rfl)
  m1 := c.metS 1 (d := ⟨"plan_of", "State.plan_of", methZ 51 1⟩) rfl
  m2 := c.metS 2 (d := ⟨"cost_now", "State.cost_now", methZ 51 2⟩) rfl
theorem txtC_Z (X : K.In h) (G : h.Ns mainGlobals mg) (c : SaysY K CS CC CN CL) : TxtCon K mg CC where
  mg_ := (PySem.W.mg_of X G (He.eqO_ok (c.more 14 (f := fun K CS CC CN CL => gloZ K "Console" CC) rfl)))
  cls := clsZ_ok (c.more 15 (f := fun K CS CC CN CL => clsZ K CC) rfl)
  ini := c.metC_mk (c.more 16 (f := fun K CS CC CN CL => mkZ K CC) rfl) 0 (d := ⟨"__init__", "Console.__init__", methZ 52 0⟩) rfl rfl
  no := noZ (c.more 17 (f := fun K CS CC CN CL => noB K CC ["_states", "_at", "_entries"]) rfl)
  m_state := c.metC 1 (d := ⟨"_state", "Console._state", methZ 52 1⟩) rfl
  m_enter := c.metC 2 (d := ⟨"_enter", "Console._enter", methZ 52 2⟩) rfl
  m_check := c.metC 3 (d := ⟨"_check_name", "Console._check_name", methZ 52 3⟩) rfl
  m_go := c.metC 4 (d := ⟨"go", "Console.go", methZ 52 4⟩) rfl
  m_promise := c.metC 5 (d := ⟨"promise", "Console.promise", methZ 52 6⟩) rfl
  m_harbour := c.metC 6 (d := ⟨"harbour", "Console.harbour", methZ 52 14⟩) rfl
  m_ships := c.metC 7 (d := ⟨"ships", "Console.ships", methZ 52 15⟩) rfl
  m_promises := c.metC 8 (d := ⟨"promises", "Console.promises", methZ 52 16⟩) rfl
  m_plan := c.metC 9 (d := ⟨"plan", "Console.plan", methZ 52 17⟩) rfl
  m_st := c.metC 10 (d := ⟨"state", "Console.state", methZ 52 18⟩) rfl
  m_cost := c.metC 11 (d := ⟨"cost", "Console.cost", methZ 52 19⟩) rfl
  m_len := c.metC 12 (d := ⟨"__len__", "Console.__len__", methZ 52 24⟩) rfl
  p_now := c.prop_
theorem all_Z (X : K.In h) (G : h.Ns mainGlobals mg) (c : SaysY K CS CC CN CL) : AllT prZ K mg CS CC CN CL where
  T := txt_Z X G c
  S := txtS_Z X G c
  C := txtC_Z X G c
  NW := raiseNW (extZ_ok (PySem.W.mg_of X G (He.eqO_ok (c.more 18 (f := fun K CS CC CN CL => gloZ K "NoWay" CN) rfl))) (c.ext1) (PySem.W.mg_none_of X G (He.eqO_ok (List.all_eq_true.mp (c.more 0 (f := fun K CS CC CN CL => (["len", "all", "any", "sum", "min", "max", "int", "isinstance", "bool", "tuple", "list", "set", "sorted", "reversed", "enumerate", "zip", "range", "repr", "super"] : List Str).all (freeZ K)) rfl) "super" (List.mem_of_getElem? (i := 18) rfl)))))
  ne := of_decide_eq_true (c.more 19 (f := fun K CS CC CN CL => decide (CS ≠ CC)) rfl)
  cl := ⟨_, extZ_ok (PySem.W.mg_of X G (He.eqO_ok (c.more 20 (f := fun K CS CC CN CL => gloZ K "Clash" CL) rfl))) (c.ext2) (PySem.W.mg_none_of X G (He.eqO_ok (List.all_eq_true.mp (c.more 0 (f := fun K CS CC CN CL => (["len", "all", "any", "sum", "min", "max", "int", "isinstance", "bool", "tuple", "list", "set", "sorted", "reversed", "enumerate", "zip", "range", "repr", "super"] : List Str).all (freeZ K)) rfl) "super" (List.mem_of_getElem? (i := 18) rfl))))⟩
  noS := He.eqO_ok (c.more 21 (f := fun K CS CC CN CL => He.eqO (PySem.W.findIn K (.ref CL) "ships") (some none)) rfl)
  xf := xfB_ok (c.more 22 (f := fun K CS CC CN CL => xfB K CL) rfl)
  exC := of_decide_eq_true (c.more 23 (f := fun K CS CC CN CL => decide (PySem.W.exmOne K (.ref CL) (.ref CL) = some true)) rfl)
  exN := of_decide_eq_true (c.more 24 (f := fun K CS CC CN CL => decide (PySem.W.exmOne K (.ref CN) (.ref CN) = some true)) rfl)
  mC := (PySem.W.mg_of X G (He.eqO_ok (c.more 20 (f := fun K CS CC CN CL => gloZ K "Clash" CL) rfl)))
  mN := (PySem.W.mg_of X G (He.eqO_ok (c.more 18 (f := fun K CS CC CN CL => gloZ K "NoWay" CN) rfl)))
theorem law_Z (X : K.In h) (G : h.Ns mainGlobals mg) (c : SaysY K CS CC CN CL) {fa : Addr} (hm : mg "law" = some (.ref fa)) : ∃ fd, Fun K "law" "law" (top 62) fa fd := by
  obtain ⟨f, fd, F, e⟩ := (c.funX X G 37 (d := ⟨"law", "law", topZ 62⟩) rfl).ex
  have e2 := hm.symm.trans e
  cases e2
  exact ⟨fd, F⟩
end
theorem lawZ {w : World} {K : PySem.W.Frag} {h : Heap} {mg : Str → Option Value} {fa : Addr} (X : K.In h) (G : h.Ns mainGlobals mg) (hm : mg "law" = some (.ref fa)) (c : SaysZ K) : LawAt prZ w K mg fa := by
  obtain ⟨fd, F⟩ := law_Z X G c.y hm
  exact law_ok (all_Z X G c.y) F
theorem walkY {q : Program} {loose : List Str} {XP : (Str → Option Value) → Heap → Prop} {YP : World → Heap → Prop} {d : DefRec} (hdf : d.params.defaults = []) (hd : d.name = "law")
    (hY : ∀ (w : World) (h : Heap), YP w h → ∃ K : PySem.W.Frag, K.In h ∧ SaysZ K) :
    PySem.W.WalkO q loose XP YP PySem.Challenge.rw_tidewaits_k71_whole_hours_go_on.row.toRowW d [] (fun f vs => PySem.call f vs) :=
  walk_G (l := PySem.Challenge.rw_tidewaits_k71_whole_hours_go_on) rfl hdf fun w mg fa h Y G hmg => by
    obtain ⟨K, X, c⟩ := hY w h Y
    exact ⟨K, X, lawZ X G (by rw [← hd]; exact hmg) c⟩
end TW
set_option maxHeartbeats 0
/-! WB2: the end. -/
open PySem PySem.W PySem.Calls PyProof.Rows
theorem PySem.Challenge.cw_tidewaits_k71_whole_hours_go_on_holds : PySem.Challenge.rw_tidewaits_k71_whole_hours_go_on.Holds := by
  w_on; o_law
  refine HandSHeadRun.head_imp (r := TW.RB) (q := TW.qB) (H := TW.hookZ 5) (ob := TW.obB 5) (M := 20000) (loose := TW.looseB) (d := HandSHeadRun.topDef TW.RB.prog 62) (kwd := []) (TW.obB_eq 5) TW.runB
    (by kernel_rfl) (by kernel_rfl) (by kernel_rfl) (by rfl) (by first | assumption | decide +kernel) (by decide +kernel) ⟨rfl, rfl, rfl, rfl, rfl, by decide +kernel⟩ ?hw ?hc
  case hw => w_witness2
  case hc => exact TW.walkY (by kernel_rfl) (by kernel_rfl) fun w h Y => Y
