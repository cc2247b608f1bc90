import PyProof.Rows.All
import Wide.All
import OpenK.AllK
import Wide.FinOn
import HandS.Head2
import HandS.HeadHook3
import HandS.Words
import HandS.ClsMeth
import HandS.IsInst
import HandS.Base
import HandS.Call
import HandS.List
import HandS.Comp
import HandS.Dict
import HandS.Iter
import HandS.Text
import HandS.More
import HandS.Defaults
import HandS.MakeKwOnly
import HandS.Star
import HandS.Conv
import HandS.Style
import HandS.NoneIn
import HandS.Wide
import HandS.WideBits
import HandS.Deep
import HandS.TupSets
import HandS.Strs
import PyProof.SeqIndex
import KE.SortData
import KE.GoesMore
import KE.GoesEnum
import HandS.Zip
import KE.KDictZip
import KE.KDictKeyed
import HandS.DictComp
import HandS.CallLocal
import PyProof.StrLawsTight
import HandS.MakeKw
import HandS.HeadEnd
import PySem.Challenge.RW_squareloops_k40_whole_powers_far
set_option Elab.async false
set_option linter.all false
set_option maxRecDepth 100000
section
set_option maxHeartbeats 0
namespace SQ
open PySem PySem.Spec PyProof.Rows L2
/-! ### the text by places -/
def top (i : Nat) : Stmt := PySem.Challenge.pw_squareloops_k40_whole_powers_far.main.body.getD i (.Pass ⟨0, 0, 0, 0⟩)
/-! ### tables of texts -/
def endTs : List Str := ["-1", "0", "1", "n//2-1", "n//2", "n//2+1", "(n+1)//2-1", "(n+1)//2", "(n+1)//2+1", "n-1", "n", "n+1", "i-1", "i", "i+1", "n-i-1", "n-i", "n-i+1"]
def endT (a : Nat) : Str := endTs.getD a ""
def bsTs : List Str := ["0", "n//2", "(n+1)//2", "n", "i", "n-i"]
def bsT (b : Nat) : Str := bsTs.getD b ""
def nmTs : List Str := ["i", "j", "~i", "~j"]
def sgTs : List Str := ["<", "<=", "==", "!="]
def plTs : List Str := ["i,j", "j,i", "i,~j", "~j,i", "~i,j", "j,~i", "~i,~j", "~j,~i"]
def wdTs : List Str := ["swap", "copy", "order", "turn"]
/-! ### what the head looks at -/
def loo0 : List Str := ["_wall", "__name__", "OUTER", "INNER", "bound_value", "is_bound", "is_loop", "goes_down", "loop_range", "in_loop"]
def loo1 : List Str := ["MOST_NESTS", "MOST_DEEDS", "MOST_ROWS", "MOST_SIZE", "MOST_POWER", "MOST_LISTED", "PLACES", "FEWEST", "MOST", "NUMBERS"]
def loo2 : List Str := ["SIGNS", "Deed", "is_guard", "parsed_deed", "number_of", "place_cell", "holds", "do_deed", "WrongValue", "InvalidLoop"]
def loo3 : List Str := ["InvalidText", "InvalidSize", "InvalidCell", "InvalidTable", "InvalidPower", "InvalidCount", "InvalidTail", "NotAProgram", "InvalidDeeds", "InvalidNests"]
def loo4 : List Str := ["InvalidListed", "NoAnswer", "Falls", "is_integer", "within", "within_values", "is_cell", "is_row", "is_table", "check_size"]
def loo5 : List Str := ["check_cell", "check_table", "KINDS", "images_of", "found_kind", "least_size", "corner", "stands_at", "standing_kinds", "falls_at"]
def loo6 : List Str := ["orbit_rounds", "starts", "meet_rows", "join_rows", "moves_from", "effect_on", "content_after", "repeated", "bits_of", "least_contents"]
def loo7 : List Str := ["OUTER_HEAD", "INNER_HEAD", "Nest", "Program", "check_program", "nest_rows", "read_nests", "read_nest", "MOST_COUNT", "check_listed"]
def loo8 : List Str := ["check_tail", "tail_from", "goes_on", "Sizes", "last_change", "deciding_sizes", "sizes_where", "DECIDING", "met_kinds", "Action"]
def loo9 : List Str := ["moved_entries", "reached_bits", "_law_purl", "_law_dig", "_law_spots", "_law_cells", "_law_end", "_law_endtext", "_law_loop", "_law_looptext"]
def loo10 : List Str := ["_law_deed", "_law_deedtext", "_law_nest", "_law_plan", "_law_text", "_law_steps", "_law_turns", "_law_out", "_law_holds", "_law_do"]
def loo11 : List Str := ["_law_orbit", "_law_near", "_law_outfar", "_law_far", "_law_spot", "_law_after", "_law_met", "_law_right"]
def loo : List Str := loo0 ++ (loo1 ++ (loo2 ++ (loo3 ++ (loo4 ++ (loo5 ++ (loo6 ++ (loo7 ++ (loo8 ++ (loo9 ++ (loo10 ++ (loo11)))))))))))
def fnL0 : List (Str × Nat) := [("bound_value", 4), ("is_bound", 5), ("is_loop", 6), ("goes_down", 7), ("loop_range", 8), ("in_loop", 9), ("is_guard", 23), ("parsed_deed", 24), ("number_of", 25), ("place_cell", 26)]
def fnL1 : List (Str × Nat) := [("holds", 27), ("do_deed", 28), ("is_integer", 46), ("within", 47), ("is_cell", 49), ("check_size", 52), ("check_cell", 53), ("images_of", 57), ("found_kind", 58), ("least_size", 59)]
def fnL2 : List (Str × Nat) := [("corner", 60), ("falls_at", 64), ("orbit_rounds", 65), ("starts", 66), ("meet_rows", 67), ("join_rows", 68), ("moves_from", 69), ("effect_on", 70), ("content_after", 71), ("repeated", 72)]
def fnL3 : List (Str × Nat) := [("bits_of", 73), ("least_contents", 74), ("check_program", 80), ("read_nests", 82), ("read_nest", 83), ("check_listed", 86), ("check_tail", 87), ("tail_from", 88), ("goes_on", 89), ("sizes_where", 93)]
def fnL4 : List (Str × Nat) := [("reached_bits", 99), ("_law_purl", 101), ("_law_dig", 102), ("_law_spots", 103), ("_law_cells", 104), ("_law_end", 105), ("_law_endtext", 106), ("_law_loop", 107), ("_law_looptext", 108), ("_law_deed", 109)]
def fnL5 : List (Str × Nat) := [("_law_deedtext", 110), ("_law_nest", 111), ("_law_plan", 112), ("_law_text", 113), ("_law_steps", 114), ("_law_turns", 115), ("_law_out", 116), ("_law_holds", 117), ("_law_do", 118), ("_law_orbit", 119)]
def fnL6 : List (Str × Nat) := [("_law_near", 120), ("_law_outfar", 121), ("_law_far", 122), ("_law_spot", 123), ("_law_after", 124), ("_law_met", 125), ("_law_right", 126), ("law", 127)]
def fnL : List (Str × Nat) := fnL0 ++ (fnL1 ++ (fnL2 ++ (fnL3 ++ (fnL4 ++ (fnL5 ++ (fnL6))))))
def frL0 : List Str := ["len", "int", "bool", "str", "list", "tuple", "dict", "set", "isinstance", "min"]
def frL1 : List Str := ["max", "abs", "sum", "all", "any", "sorted", "divmod", "range", "enumerate", "zip"]
def frL : List Str := frL0 ++ (frL1)
def clN : List Str := ["Deed", "Nest", "Program", "Sizes", "Action"]
def tbN : List Str := ["NUMBERS", "SIGNS", "PLACES", "KINDS", "OUTER", "INNER", "FEWEST", "MOST"]
def naL0 : List (Str × Str) := [("Deed", "word"), ("Deed", "spots"), ("Deed", "guard"), ("Nest", "over"), ("Nest", "below"), ("Nest", "texts"), ("Nest", "parsed"), ("Program", "parts"), ("Sizes", "tails"), ("Sizes", "few")]
def naL1 : List (Str × Str) := [("Action", "moves"), ("Action", "gaps")]
def naL : List (Str × Str) := naL0 ++ (naL1)
def meL : List (Str × Str) := [("Sizes", "__contains__"), ("Action", "result"), ("Action", "reaches"), ("Action", "times")]
def mxL : List (Nat × Str) := [(3, "__contains__"), (4, "result"), (4, "reaches"), (4, "times"), (2, "read"), (4, "of"), (0, "__init__"), (1, "__init__"), (2, "__init__"), (3, "__init__"), (4, "__init__")]
def cmL : List (Str × Str) := [("Program", "read"), ("Action", "of")]
def fa : List He.Fa := fnL.map (fun p => .glo p.1) ++ (frL.map .free ++ (clN.map .glo ++ (clN.map .cls ++ (clN.map .mkr ++ (tbN.map .glo ++ (naL.map (fun p => .noat p.1 p.2) ++ (meL.map (fun p => .meth p.1 p.2) ++
  [.glo "within_values", .int "MOST_NESTS" 4, .int "MOST_DEEDS" 6, .int "MOST_SIZE" 1000000000000000000000000000000, .int "MOST_POWER" 1000000000000000000000000000000, .int "DECIDING" 11, .str "OUTER_HEAD" "i from ", .str "INNER_HEAD" "j from "])))))))
def dF (x y : Str) (i : Nat) : He.DefD := ⟨(x, none), y, y, defArgs (top i), defBody (top i), defScope (top i), [], []⟩
def dM (c m q : Str) (i j : Nat) : He.DefD := ⟨(c, some m), m, q, defArgs (inClass (top i) j), defBody (inClass (top i) j), defScope (inClass (top i) j), [], []⟩
def szK (K : PySem.W.Frag) : Addr := He.dflAt ("Sizes", some "__init__") 0 K
def dZ : He.DefD := ⟨("Sizes", some "__init__"), "__init__", "Sizes.__init__", defArgs (inClass (top 90) 0), defBody (inClass (top 90) 0), defScope (inClass (top 90) 0), [.adr szK], [("even", .non), ("odd", .non), ("most", .int 200)]⟩
def mdL0 : List He.DefD := [dM "Sizes" "__contains__" "Sizes.__contains__" 90 5, dM "Action" "result" "Action.result" 97 5, dM "Action" "reaches" "Action.reaches" 97 6, dM "Action" "times" "Action.times" 97 8, dM "Deed" "__init__" "Deed.__init__" 22 0, dM "Nest" "__init__" "Nest.__init__" 78 0, dM "Program" "__init__" "Program.__init__" 79 0, dM "Action" "__init__" "Action.__init__" 97 0]
def mdL : List He.DefD := mdL0
def fn : List He.DefD := fnL.map (fun p => dF p.1 p.1 p.2) ++ (mdL ++ [dF "within_values" "within" 47, dZ])
def ts : List He.Tab := [(fun K => He.ga K "OUTER", [0, 1, 2, 9, 10, 11, 3, 4, 5, 6, 7, 8].map endT), (fun K => He.ga K "INNER", (List.range 6).map fun a => endT (12 + a)), (fun K => He.ga K "FEWEST", wdTs), (fun K => He.ga K "MOST", wdTs)]
/-! ### addresses -/
def frcL {α : Type} : List Addr → (List Addr → α) → α
  | [], k => k []
  | a :: r, k => HandSHeadRun.frNat a fun a => frcL r fun r => k (a :: r)
theorem frcL_eq {α : Type} : ∀ (l : List Addr) (k : List Addr → α), frcL l k = k l
  | [], _ => rfl
  | a :: r, k => by
    show HandSHeadRun.frNat a (fun a => frcL r fun r => k (a :: r)) = _
    rw [HandSHeadRun.frNat_eq, frcL_eq r]
def frcK {α : Type} (g : Addr → Option Obj) : List Addr → (PySem.W.Frag → α) → α
  | [], k => k []
  | a :: r, k => match g a with
    | none => frcK g r k
    | some o => frcK g r fun r => k ((a, o) :: r)
theorem frcK_eq {α : Type} {g : Addr → Option Obj} : ∀ (l : List Addr) (k : PySem.W.Frag → α), frcK g l k = k (He.frG g l)
  | [], _ => rfl
  | a :: r, k => by
    have e : frcK g (a :: r) k = match g a with
      | none => frcK g r k
      | some o => frcK g r fun r => k ((a, o) :: r) := rfl
    rw [e]
    cases h : g a with
    | none =>
      show frcK g r k = _
      rw [frcK_eq r]
      unfold He.frG
      rw [List.filterMap_cons, h]
      rfl
    | some o =>
      show frcK g r (fun r => k ((a, o) :: r)) = _
      rw [frcK_eq r]
      unfold He.frG
      rw [List.filterMap_cons, h]
      rfl
def adF (g : Addr → Option Obj) (a : Addr) : List Addr := match g a with
  | some ⟨_, _, .func fd, _⟩ => He.refV fd.code ++ (He.refV fd.defaults ++ He.refV fd.kwdefaults)
  | some ⟨_, _, .cls cd, _⟩ => [cd.ns]
  | some ⟨_, _, .dict es _, _⟩ => es.toList.flatMap fun e => He.refV e.val
  | some ⟨_, _, .fields vs, _⟩ => (vs.toList.take 1).flatMap He.refV
  | _ => []
def kinA (g : Addr → Option Obj) (a : Addr) : List Addr := match g a with
  | some ⟨_, _, .seq its _, _⟩ => its.toList.flatMap He.refV
  | _ => []
/-- all that is looked at -/
def withA {α : Type} (g : Addr → Option Obj) (k : List Addr → α) : α :=
  frcL (adF g mainGlobals) fun A1 => frcL (A1.flatMap (adF g)) fun A2 => frcK g [mainGlobals] fun K0 => frcL (clN.map (He.ga K0)) fun C => frcL (C.flatMap (adF g)) fun N =>
  frcK g (C ++ N) fun K1 => frcL (mxL.map fun p => He.ma K1 (C.getD p.1 0) p.2) fun M => frcL (M.flatMap (adF g)) fun M1 => frcL (M1.flatMap (adF g)) fun M2 => frcL (kinA g (He.ga K0 "KINDS")) fun Q =>
  k (mainGlobals :: cStatics :: (C ++ (N ++ (M ++ (M1 ++ (M2 ++ (Q ++ (A1 ++ A2))))))))
def asM (g : Addr → Option Obj) : List Addr := withA g fun as => as
theorem withA_eq {α : Type} (g : Addr → Option Obj) (k : List Addr → α) : withA g k = k (asM g) := by
  unfold asM withA
  simp only [frcK_eq, frcL_eq]
/-- .. as a part of the heap -/
def lookA {α : Type} (g : Addr → Option Obj) (k : PySem.W.Frag → α) : α := withA g fun as => frcK g as k
theorem lookA_eq {α : Type} (g : Addr → Option Obj) (k : PySem.W.Frag → α) : lookA g k = k (He.frG g (asM g)) := by
  unfold lookA
  rw [withA_eq, frcK_eq]
/-! ### further facts -/
def ktB (K : PySem.W.Frag) (a : Addr) (xs : List V) : Bool := match K.lookup a with
  | some ⟨.type c, _, .seq its _, _⟩ => decide (c = "tuple") && (decide (its.size ≤ sizeLine) && He.relAll xs its.toList)
  | _ => false
def krs (K : PySem.W.Frag) : List Addr := match K.lookup (He.ga K "KINDS") with
  | some ⟨_, _, .seq its _, _⟩ => its.toList.flatMap He.refV
  | _ => []
def kinB (K : PySem.W.Frag) : Bool := (List.range 24).all fun i => match (krs K)[i]? with
  | some a => ktB K a [.int ((i / 12 : Nat) : Int), .int ((i / 4 % 3 : Nat) : Int), .int ((i % 4 : Nat) : Int)]
  | none => false
def tabB (K : PySem.W.Frag) (x : Str) (a n : Nat) : Bool := (List.range n).all fun b => match PySem.W.nsIn K (He.ga K x) (endT (a + b)) with
  | some (some (.ref t)) => ktB K t [.str (bsT ((a + b) / 3)), .int (((a + b) % 3 : Nat) - 1)]
  | _ => false
def isB (K : PySem.W.Frag) (C : Addr) : Bool := He.eqO (PySem.W.findIn K (.ref C) "__class__") (some (some (.builtin "object.__class__"))) && (He.eqO (PySem.W.specialIn K (.builtin "object.__class__") "__get__") (some (some (.builtin "getset_descriptor.__get__"))) &&
  (decide (PySem.W.takesIn K (.builtin "object.__class__") = some true) && (decide (PySem.W.mroIn K C (.type "object") = some true) && decide (PySem.W.kitOne K (.ref C) (.ref C) = some true))))
def cmg (K : PySem.W.Frag) (p : Addr) : Addr := match PySem.W.recIn K p "classmethod" with
  | some (.ref g :: _) => g
  | _ => 0
def cmB (K : PySem.W.Frag) (C : Addr) (m q : Str) : Bool := PySem.W.readsIn K C (.type "type") && (He.eqO (PySem.W.specialIn K (.ref C) "__getattribute__") (some (some (.builtin "type.__getattribute__"))) &&
  ((match PySem.W.findCls K (.ref C) (.type "type") m with
    | some (.get f a b c) => decide (f = .builtin "classmethod.__get__") && (decide (a = .ref (He.ma K C m)) && (decide (b = .none) && decide (c = .ref C)))
    | _ => false) && ((match PySem.W.recIn K (He.ma K C m) "classmethod" with
    | some (.ref _ :: _) => true
    | _ => false) && (PySem.W.fnIn K (cmg K (He.ma K C m)) && (PySem.W.keepIn K (.ref (cmg K (He.ma K C m))) && (match K.lookup (cmg K (He.ma K C m)) with
    | some ⟨_, _, .func fd, _⟩ => PySem.W.codeIn K fd.code q && decide (fd.defaults = .none)
    | _ => false))))))
def exB (K : PySem.W.Frag) : Bool := ktB K (He.ga K "NUMBERS") (nmTs.map V.str) && (ktB K (He.ga K "SIGNS") (sgTs.map V.str) && (ktB K (He.ga K "PLACES") (plTs.map V.str) && (ktB K (He.ga K "KINDS") ((krs K).map V.ref) && (decide ((krs K).length = 24) &&
  (kinB K && (tabB K "OUTER" 0 12 && (tabB K "INNER" 12 6 && ((List.range 6).all (fun a => He.eqO (PySem.W.nsIn K (He.ga K "OUTER") (endT (12 + a))) (some none)) &&
  (He.valsB K (He.ga K "FEWEST") [("swap", .int 2), ("copy", .int 2), ("order", .int 2), ("turn", .int 3)] && (He.valsB K (He.ga K "MOST") [("swap", .int 2), ("copy", .int 2), ("order", .int 2), ("turn", .int 8)] &&
  (isB K (He.ga K "Nest") && (isB K (He.ga K "Program") && (cmB K (He.ga K "Program") "read" "Program.read" && cmB K (He.ga K "Action") "of" "Action.of")))))))))))))
/-- a def that stands at an address -/
def fnAt (K : PySem.W.Frag) (a : Addr) : He.FnW := match K.lookup a with
  | some ⟨_, _, .func fd, _⟩ => some (fd.name, fd.qualname, fd.params, fd.body, fd.scope, fd.globals, fd.closure, fd.builtins)
  | _ => none
def fnV (m q : Str) (st : Stmt) : He.FnW := some (m, q, defArgs st, .stmts (defBody st), defScope st, mainGlobals, [], builtinsNs)
def cmO (K : PySem.W.Frag) : List He.FnW := [fnAt K (cmg K (He.ma K (He.ga K "Program") "read")), fnAt K (cmg K (He.ma K (He.ga K "Action") "of"))]
def cmV : List He.FnW := [fnV "read" "Program.read" (inClass (top 79) 1), fnV "of" "Action.of" (inClass (top 97) 1)]
/-! ### the Hook -/
abbrev AlM : Type := Bool × (Bool × (List He.FnW × (List (Option (List (Option (Str × Int)))) × List He.FnW)))
def ob1 (K : PySem.W.Frag) : Bool := (fa.all fun f => f.ok K) && exB K
def ob2 (K : PySem.W.Frag) : Bool := fn.all fun d => d.ok K
def ob3 (K : PySem.W.Frag) : List He.FnW × (List (Option (List (Option (Str × Int)))) × List He.FnW) := (fn.map fun d => He.fnW K d.at_, (ts.map fun t => He.dicW K (t.1 K), cmO K))
def va3 (w : World) : List He.FnW × (List (Option (List (Option (Str × Int)))) × List He.FnW) := (fn.map He.DefD.val, (ts.map fun t => some (He.keysIn w.params t.2), cmV))
def obM (g : Addr → Option Obj) : AlM := (ob1 (He.frG g (asM g)), (ob2 (He.frG g (asM g)), ob3 (He.frG g (asM g))))
def vaM (w : World) : AlM := (true, (true, va3 w))
structure SaysM (w : World) (K : PySem.W.Frag) : Prop where
  t : He.SaysT fa fn ts w K
  ex : exB K = true
  cm : cmO K = cmV
theorem says_of {w : World} {h : Heap} (e : obM h.get? = vaM w) : ∃ K : PySem.W.Frag, K.In h ∧ SaysM w K := by
  refine ⟨_, He.frG_in (as := asM h.get?), ?_⟩
  unfold obM at e
  generalize He.frG h.get? (asM h.get?) = K at *
  have e1 : ob1 K = true := congrArg (fun z : AlM => z.1) e
  have e2 : ob2 K = true := congrArg (fun z : AlM => z.2.1) e
  have e3 : (fn.map fun d => He.fnW K d.at_) = fn.map He.DefD.val := congrArg (fun z : AlM => z.2.2.1) e
  have e4 : (ts.map fun t => He.dicW K (t.1 K)) = ts.map fun t => some (He.keysIn w.params t.2) := congrArg (fun z : AlM => z.2.2.2.1) e
  have e5 : cmO K = cmV := congrArg (fun z : AlM => z.2.2.2.2) e
  obtain ⟨e6, e7⟩ := He.ba e1
  have e8 : ((fa.all fun f => f.ok K) && fn.all fun d => d.ok K) = true := Bool.and_eq_true_iff.mpr ⟨e6, e2⟩
  exact ⟨Prod.ext (Prod.ext e8 e3) e4, e7, e5⟩
def hk : PySem.W.Hook where
  α := AlM
  obs := fun s => obM s.heap.get?
  val := vaM
  says := fun w h => ∃ K : PySem.W.Frag, K.In h ∧ SaysM w K
  of := fun _ _ e => says_of e
  keeps := fun _ _ _ ⟨K, hK, c⟩ k => ⟨K, PySem.W.Frag.In.keeps hK k, c⟩
def obS (s : PySem.W.SharedT) : AlM := obM (HandSHeadRun.getT s)
theorem obS_eq (s : PySem.W.SharedT) : obS s = hk.obs s.abs := by
  show obM (HandSHeadRun.getT s) = obM s.abs.heap.get?
  rw [show HandSHeadRun.getT s = s.abs.heap.get? from funext (HandSHeadRun.getT_eq s)]
/-! ### the top runs to its end -/
open PySem.W PySem.Calls HandSHeadRun
abbrev Rw : OpenRow := OpenLaw.row PySem.Challenge.rw_squareloops_k40_whole_powers_far
abbrev qv : Program := view Rw.prog [127]
noncomputable abbrev endS (w : World) (os : OsState) : Option SharedT := endF (stepQ (denQ tabQ) Rw.prog w) 13000 Rw.prog w os
abbrev LkE (w : World) : Prop := ∀ os : OsState, (endS w os).map (fun s => looksF Rw.prog (boot_heap w.params) s.abs) = some true
abbrev SeE (w : World) : Prop := ∀ os : OsState, (endS w os).map (fun s => seenQ qv loo (importedModules Rw.prog.main.body) (fun s => xlAt qv [] s && recOk Rw.toRowW.records s) s.abs) = some (openGood qv loo)
abbrev O1E (w : World) : Prop := ∀ os : OsState, (endS w os).map (fun s => lookA (getT s) ob1) = some true
abbrev O2E (w : World) : Prop := ∀ os : OsState, (endS w os).map (fun s => lookA (getT s) ob2) = some true
abbrev O3E (w : World) : Prop := ∀ os : OsState, (endS w os).map (fun s => lookA (getT s) ob3) = some (va3 w)
end SQ
end
section
set_option maxHeartbeats 0
namespace SQ
open PySem PySem.Spec PyProof.Rows L2
open PySem.W PySem.Calls HandSHeadRun
/-! ### the runs of the top -/
theorem o2_f (w : World) : O2E (w.withFollow "special-get-raises" false) := fun os => by kernel_rfl
theorem o2_t (w : World) : O2E (w.withFollow "special-get-raises" true) := fun os => by kernel_rfl
theorem o1_f (w : World) : O1E (w.withFollow "special-get-raises" false) := fun os => by kernel_rfl
theorem o1_t (w : World) : O1E (w.withFollow "special-get-raises" true) := fun os => by kernel_rfl
theorem o3_f (w : World) : O3E (w.withFollow "special-get-raises" false) := fun os => by kernel_rfl
theorem o3_t (w : World) : O3E (w.withFollow "special-get-raises" true) := fun os => by kernel_rfl
theorem lk_f (w : World) : LkE (w.withFollow "special-get-raises" false) := fun os => by kernel_rfl
theorem lk_t (w : World) : LkE (w.withFollow "special-get-raises" true) := fun os => by kernel_rfl
theorem se_f (w : World) : SeE (w.withFollow "special-get-raises" false) := fun os => by kernel_rfl
theorem se_t (w : World) : SeE (w.withFollow "special-get-raises" true) := fun os => by kernel_rfl
theorem run (w : World) : RunEq Rw qv hk obS 13000 loo w := fun os => by
  have h1 := byRow2 "special-get-raises" (P := LkE) lk_f lk_t w os
  have h2 := byRow2 "special-get-raises" (P := SeE) se_f se_t w os
  have h3 := byRow2 "special-get-raises" (P := O1E) o1_f o1_t w os
  have h4 := byRow2 "special-get-raises" (P := O2E) o2_f o2_t w os
  have h5 := byRow2 "special-get-raises" (P := O3E) o3_f o3_t w os
  obtain ⟨s, e, h1⟩ := Option.map_eq_some_iff.mp h1
  rw [e] at h2 h3 h4 h5
  have h2 := Option.some.inj h2
  have h3 : lookA (getT s) ob1 = true := Option.some.inj h3
  have h4 : lookA (getT s) ob2 = true := Option.some.inj h4
  have h5 : lookA (getT s) ob3 = va3 w := Option.some.inj h5
  rw [lookA_eq] at h3 h4 h5
  have h6 : obS s = hk.val w := Prod.ext h3 (Prod.ext h4 h5)
  show (endS w os).map _ = _
  rw [e, Option.map_some, h1, h6]
  exact congrArg (fun z => some (true, z, hk.val w)) h2
end SQ
end
section
set_option maxHeartbeats 4000000
/-! A calculus over the layer: what holds of the names' values, of the objects that are owned, and nothing of addresses. -/
namespace SQ
open PySem PySem.Spec PyProof.Rows L2
noncomputable section
abbrev St := L2.St

/-- a property of a value in a heap -/
abbrev VP := V → Hp → Prop
/-- it holds in every heap with more objects -/
def Bx (P : VP) : VP := fun v H => ∀ H', Same H H' → P v H'
theorem Bx.mono {P : VP} {v : V} {H H' : Hp} (h : Bx P v H) (e : Same H H') : Bx P v H' := fun H2 e2 => h H2 (e.trans e2)
theorem Bx.here {P : VP} {v : V} {H : Hp} (h : Bx P v H) : P v H := h H (Same.refl H)
/-- what the names hold; what is owned: an address, and what holds of its object -/
abbrev Gm := List (Option VP)
abbrev OC := HO → Hp → Prop
abbrev Ow := List (Addr × OC)
/-- where one stands: the heap at the entry, what of it may change, what is hidden -/
structure Ct where
  h0 : Hp
  mu : Addr → Prop
  hd : Addr → Prop
def inO (W : Ow) (a : Addr) : Prop := a ∈ W.map (·.1)
open Classical in
def hid (p : Addr → Prop) (H : Hp) : Hp := fun a => if p a then none else H a
theorem hid_some {p : Addr → Prop} {H : Hp} {a : Addr} {u : HO} : hid p H a = some u ↔ ¬ p a ∧ H a = some u := by
  unfold hid
  by_cases h : p a
  · rw [if_pos h]
    exact ⟨(fun z => nomatch z), fun z => absurd h z.1⟩
  · rw [if_neg h]
    exact ⟨fun z => ⟨h, z⟩, fun z => z.2⟩
abbrev vis (c : Ct) (W : Ow) (H : Hp) : Hp := hid (fun a => c.hd a ∨ inO W a) H
theorem vis_sub {c : Ct} {W : Ow} {H : Hp} : Same (vis c W H) H := fun _ _ h => (hid_some.mp h).2
theorem hid_le {p q : Addr → Prop} {H H' : Hp} (e : ∀ a u, ¬ p a → H a = some u → ¬ q a ∧ H' a = some u) : Same (hid p H) (hid q H') := fun a u h =>
  hid_some.mpr (e a u (hid_some.mp h).1 (hid_some.mp h).2)
def EnvR (G : Gm) (s : St) (Hv : Hp) : Prop := G.length = s.length ∧ ∀ (i : Nat) (P : VP), G[i]? = some (some P) → ∃ v, s[i]? = some (some v) ∧ Bx P v Hv
theorem EnvR.mono {G : Gm} {s : St} {H H' : Hp} (h : EnvR G s H) (e : Same H H') : EnvR G s H' := ⟨h.1, fun i P q => let ⟨v, a, b⟩ := h.2 i P q; ⟨v, a, b.mono e⟩⟩
theorem EnvR.set {G : Gm} {s : St} {H : Hp} (h : EnvR G s H) (i : Nat) {P : VP} {v : V} (b : Bx P v H) : EnvR (G.set i (some P)) (s.set i (some v)) H := by
  refine ⟨by rw [List.length_set, List.length_set, h.1], fun j Q q => ?_⟩
  by_cases e : i = j
  · subst e
    by_cases hl : i < G.length
    · rw [List.getElem?_set_self hl] at q
      cases q
      exact ⟨v, List.getElem?_set_self (by rw [← h.1]; exact hl), b⟩
    · rw [List.getElem?_eq_none (by rw [List.length_set]; omega)] at q
      cases q
  · rw [List.getElem?_set_ne e] at q
    obtain ⟨u, a, z⟩ := h.2 j Q q
    exact ⟨u, by rw [List.getElem?_set_ne e]; exact a, z⟩
theorem EnvR.forget {G G' : Gm} {s s' : St} {H : Hp} (h : EnvR G s H) (l : G'.length = s'.length) (f : ∀ (i : Nat) P, G'[i]? = some (some P) → G[i]? = some (some P) ∧ ∀ v, s[i]? = some (some v) → s'[i]? = some (some v)) : EnvR G' s' H :=
  ⟨l, fun i P q => let ⟨a, b⟩ := f i P q; let ⟨v, x, y⟩ := h.2 i P a; ⟨v, b v x, y⟩⟩
structure StOk (c : Ct) (G : Gm) (W : Ow) (s : St) (H : Hp) : Prop where
  env : EnvR G s (vis c W H)
  own : ∀ a C, (a, C) ∈ W → (c.mu a ∨ c.h0 a = none) ∧ ∃ u, H a = some u ∧ ∀ H', Same (vis c W H) H' → C u H'
  nd : (W.map (·.1)).Nodup
  fr : ∀ a u, ¬ c.mu a → c.h0 a = some u → H a = some u
  hdA : ∀ a, c.hd a → H a ≠ none
  dj : ∀ a, inO W a → ¬ c.hd a
section
variable {c : Ct} {G G' : Gm} {W W' : Ow} {s s' : St} {H H' : Hp} {a : Addr} {u : HO} {P : VP} {v : V}
theorem inO.mem {C : OC} (h : (a, C) ∈ W) : inO W a := List.mem_map.mpr ⟨_, h, rfl⟩
theorem inO.ex (h : inO W a) : ∃ C, (a, C) ∈ W := by
  obtain ⟨p, hp, e⟩ := List.mem_map.mp h
  subst e
  exact ⟨p.2, hp⟩
theorem StOk.vsome (S : StOk c G W s H) (h : vis c W H a = some u) : ¬ c.hd a ∧ ¬ inO W a ∧ H a = some u :=
  let ⟨x, y⟩ := hid_some.mp h
  ⟨fun z => x (.inl z), fun z => x (.inr z), y⟩
/-- more objects -/
theorem vis_same (e : Same H H') : Same (vis c W H) (vis c W H') := hid_le fun a u n h => ⟨n, e a u h⟩
theorem StOk.same (S : StOk c G W s H) (e : Same H H') : StOk c G W s H' where
  env := S.env.mono (vis_same e)
  own := fun a C h => let ⟨x, u, y, z⟩ := S.own a C h; ⟨x, u, e a u y, fun H2 k => z H2 ((vis_same e).trans k)⟩
  nd := S.nd
  fr := fun a u n h => e a u (S.fr a u n h)
  hdA := fun a h n => by
    cases q : H a with
    | none => exact S.hdA a h q
    | some u => rw [e a u q] at n; cases n
  dj := S.dj
theorem StOk.fresh (S : StOk c G W s H) (n : H a = none) : ¬ c.hd a ∧ ¬ inO W a := ⟨fun z => S.hdA a z n, fun z => by
  obtain ⟨C, h⟩ := z.ex
  obtain ⟨_, u, y, _⟩ := S.own a C h
  rw [n] at y; cases y⟩
theorem Same.new {o : HO} (h : H a = none) : Same H (upd H a o) := fun b u e => by
  rw [upd_ne (ne_of_none e h)]
  exact e
theorem StOk.newV (S : StOk c G W s H) (n : H a = none) {o : HO} : vis c W (upd H a o) a = some o := hid_some.mpr ⟨fun z => z.elim (S.fresh n).1 (S.fresh n).2, upd_same⟩
theorem StOk.setE (S : StOk c G W s H) (i : Nat) (b : Bx P v (vis c W H)) : StOk c (G.set i (some P)) W (s.set i (some v)) H := { S with env := S.env.set i b }
theorem StOk.envOf (S : StOk c G W s H) (e : EnvR G' s' (vis c W H)) : StOk c G' W s' H := { S with env := e }
theorem StOk.owned (S : StOk c G W s H) {C : OC} (h : (a, C) ∈ W) : ∃ u, H a = some u ∧ ∀ H', Same (vis c W H) H' → C u H' := (S.own a C h).2
/-- an owned object changes -/
theorem vis_upd {o : HO} (h : inO W a) : vis c W (upd H a o) = vis c W H := by
  funext b
  show hid _ _ b = hid _ _ b
  unfold hid
  by_cases q : c.hd b ∨ inO W b
  · rw [if_pos q, if_pos q]
  · rw [if_neg q, if_neg q, upd_ne]
    rintro rfl
    exact q (.inr h)
theorem vis_perm (h : W.map (·.1) = W'.map (·.1)) : vis c W H = vis c W' H := by
  unfold vis inO
  rw [h]
theorem StOk.change (S : StOk c G W s H) (hm : W.map (·.1) = W'.map (·.1)) (ha : inO W a) {o : HO} (hC : ∀ b C, (b, C) ∈ W' → (b ≠ a ∧ (b, C) ∈ W) ∨ (b = a ∧ ∀ H', Same (vis c W H) H' → C o H')) : StOk c G W' s (upd H a o) := by
  have ev : vis c W' (upd H a o) = vis c W H := by rw [← vis_perm hm, vis_upd ha]
  obtain ⟨C0, h0⟩ := ha.ex
  obtain ⟨m0, u0, y0, _⟩ := S.own a C0 h0
  refine ⟨by rw [ev]; exact S.env, fun b C hb => ?_, by rw [← hm]; exact S.nd, fun b u n h => ?_, fun b h => ?_, fun b h => S.dj b (by unfold inO at h ⊢; rw [hm]; exact h)⟩
  · rcases hC b C hb with ⟨ne, h⟩ | ⟨e, h⟩
    · obtain ⟨m, u, y, z⟩ := S.own b C h
      exact ⟨m, u, by rw [upd_ne ne]; exact y, by rw [ev]; exact z⟩
    · subst e
      exact ⟨m0, o, upd_same, by rw [ev]; exact h⟩
  · have ne : b ≠ a := by
      rintro rfl
      rcases m0 with m | m
      · exact n m
      · rw [m] at h; cases h
    rw [upd_ne ne]
    exact S.fr b u n h
  · by_cases e : b = a
    · subst e
      rw [upd_same]
      exact fun z => nomatch z
    · rw [upd_ne e]
      exact S.hdA b h
/-- a new owned object -/
theorem StOk.newO (S : StOk c G W s H) (n : H a = none) {o : HO} {C : OC} (h : ∀ H', Same (vis c W H) H' → C o H') : StOk c G ((a, C) :: W) s (upd H a o) := by
  obtain ⟨n1, n2⟩ := S.fresh n
  have e1 : Same (vis c W H) (vis c ((a, C) :: W) (upd H a o)) := hid_le fun b u nb hb => by
    have ne : b ≠ a := by rintro rfl; rw [n] at hb; cases hb
    refine ⟨fun z => ?_, by rw [upd_ne ne]; exact hb⟩
    rcases z with z | z
    · exact nb (.inl z)
    · rcases List.mem_cons.mp z with z | z
      · exact ne z
      · exact nb (.inr z)
  have h0 : c.mu a ∨ c.h0 a = none := by
    by_cases m : c.mu a
    · exact .inl m
    · refine .inr ?_
      cases q : c.h0 a with
      | none => rfl
      | some u => rw [S.fr a u m q] at n; cases n
  refine ⟨S.env.mono e1, fun b D hb => ?_, List.nodup_cons.mpr ⟨n2, S.nd⟩, fun b u m q => Same.new n b u (S.fr b u m q), fun b q z => ?_, fun b h => ?_⟩
  rotate_right
  · rcases List.mem_cons.mp h with z | z
    · rw [z]; exact n1
    · exact S.dj b z
  · rcases List.mem_cons.mp hb with e | hb
    · cases e
      exact ⟨h0, o, upd_same, fun H2 k => h H2 (e1.trans k)⟩
    · obtain ⟨m, u, y, z⟩ := S.own b D hb
      exact ⟨m, u, Same.new n b u y, fun H2 k => z H2 (e1.trans k)⟩
  · cases r : H b with
    | none => exact S.hdA b q r
    | some u => rw [Same.new n b u r] at z; cases z
/-- an owned object is given free: from then on it is known by what holds of it -/
theorem vis_drop (hm : ∀ b, inO W' b → inO W b) : Same (vis c W H) (vis c W' H) := hid_le fun b u n h => ⟨fun z => n (z.elim .inl fun q => .inr (hm b q)), h⟩
theorem StOk.drop (S : StOk c G W s H) (hs : ∀ p ∈ W', p ∈ W) (nd : (W'.map (·.1)).Nodup) : StOk c G W' s H := by
  have hm : ∀ b, inO W' b → inO W b := fun b q => let ⟨C, h⟩ := q.ex; inO.mem (hs _ h)
  exact ⟨S.env.mono (vis_drop hm), fun b C hb => let ⟨m, u, y, z⟩ := S.own b C (hs _ hb); ⟨m, u, y, fun H2 k => z H2 ((vis_drop hm).trans k)⟩, nd, S.fr, S.hdA, fun b q => S.dj b (hm b q)⟩
/-- for a part that uses the owned W' alone: entry heap H, all else hidden -/
def Ct.sub (c : Ct) (W W' : Ow) (H : Hp) : Ct := ⟨H, inO W', fun a => c.hd a ∨ (inO W a ∧ ¬ inO W' a)⟩
theorem vis_subc (hm : ∀ b, inO W' b → inO W b) : vis (c.sub W W' H) W' H' = vis c W H' := by
  funext b
  show hid _ _ b = hid _ _ b
  unfold hid
  by_cases q : c.hd b ∨ inO W b
  · have q2 : (c.sub W W' H).hd b ∨ inO W' b := by
      by_cases r : inO W' b
      · exact .inr r
      · exact .inl (q.imp id fun z => ⟨z, r⟩)
    rw [if_pos q, if_pos q2]
  · rw [if_neg q, if_neg]
    exact fun z => q (z.elim (fun r => r.imp id (·.1)) fun r => .inr (hm b r))
theorem StOk.sub (S : StOk c G W s H) (hs : ∀ p ∈ W', p ∈ W) (nd : (W'.map (·.1)).Nodup) (e : EnvR G' s' (vis c W H)) : StOk (c.sub W W' H) G' W' s' H := by
  have hm : ∀ b, inO W' b → inO W b := fun b q => let ⟨C, h⟩ := q.ex; inO.mem (hs _ h)
  refine ⟨by rw [vis_subc hm]; exact e, fun a C h => ⟨.inl (inO.mem h), ?_⟩, nd, fun a u n h => h, fun a h n => ?_, fun a h z => ?_⟩
  rotate_right
  · rcases (show c.hd a ∨ (inO W a ∧ ¬ inO W' a) from z) with z | z
    · exact S.dj a (hm a h) z
    · exact z.2 h
  · obtain ⟨_, u, y, z⟩ := S.own a C (hs _ h)
    exact ⟨u, y, by rw [vis_subc hm]; exact z⟩
  · rcases (show c.hd a ∨ (inO W a ∧ ¬ inO W' a) from h) with h | h
    · exact S.hdA a h n
    · exact (S.fresh n).2 h.1
/-- behind such a part: W1 is what stood owned, with W'' in the place of W' -/
theorem StOk.back {W'' W1 : Ow} {G2 : Gm} {s2 : St} (S : StOk c G W s H) (hs : ∀ p ∈ W', p ∈ W) (S2 : StOk (c.sub W W' H) G2 W'' s2 H') (he : W''.map (·.1) = W'.map (·.1)) (h1 : W1.map (·.1) = W.map (·.1))
    (hC : ∀ a C, (a, C) ∈ W1 → (a, C) ∈ W'' ∨ ((a, C) ∈ W ∧ ¬ inO W' a)) : StOk c G W1 s H' ∧ Same (vis c W H) (vis c W1 H') ∧ vis (c.sub W W' H) W'' H' = vis c W1 H' := by
  have hm : ∀ b, inO W' b → inO W b := fun b q => let ⟨C, h⟩ := q.ex; inO.mem (hs _ h)
  have iw : ∀ b, inO W'' b ↔ inO W' b := fun b => by unfold inO; rw [he]
  have i1 : ∀ b, inO W1 b ↔ inO W b := fun b => by unfold inO; rw [h1]
  have ev : vis (c.sub W W' H) W'' H' = vis c W1 H' := by
    rw [vis_perm (c := c) h1, ← vis_subc (H := H) hm]
    exact vis_perm he
  have kp : ∀ b u, ¬ inO W' b → H b = some u → H' b = some u := fun b u n h => S2.fr b u n h
  have sm : Same (vis c W H) (vis c W1 H') := hid_le fun b u n h => ⟨fun z => n (z.imp id (i1 b).mp), kp b u (fun z => n (.inr (hm b z))) h⟩
  refine ⟨⟨S.env.mono sm, fun a C h => ?_, by rw [h1]; exact S.nd, fun a u n h => ?_, fun a h n => ?_, fun a h => S.dj a ((i1 a).mp h)⟩, sm, ev⟩
  · rcases hC a C h with q | ⟨q, n⟩
    · obtain ⟨_, u, y, z⟩ := S2.own a C q
      obtain ⟨D, hD⟩ := (hm a ((iw a).mp (inO.mem q))).ex
      exact ⟨(S.own a D hD).1, u, y, by rw [← ev]; exact z⟩
    · obtain ⟨m, u, y, z⟩ := S.own a C q
      exact ⟨m, u, kp a u n y, fun H2 k => z H2 (sm.trans k)⟩
  · have hu := S.fr a u n h
    refine kp a u (fun z => ?_) hu
    obtain ⟨C, hC⟩ := (hm a z).ex
    rcases (S.own a C hC).1 with q | q
    · exact n q
    · rw [q] at h; cases h
  · exact S2.hdA a (.inl h) n
end

/-! ### readings -/
def tD (G : Gm) (W W' : Ow) (P : VP) : TE := fun s H Q => ∃ c, StOk c G W s H ∧ ∀ v H', StOk c G W' s H' → Same (vis c W H) (vis c W' H') → Bx P v (vis c W' H') → Q v H'
def tT (G : Gm) (W : Ow) (b : Bool) : TT := fun s H Q => ∃ c, StOk c G W s H ∧ ∀ H', StOk c G W s H' → Same (vis c W H) (vis c W H') → Q b H'
def tA (G : Gm) (W : Ow) (Ps : List VP) : TA := fun s H Q => ∃ c, StOk c G W s H ∧ ∀ vs H', StOk c G W s H' → Same (vis c W H) (vis c W H') → Paired (fun P v => Bx P v (vis c W H')) Ps vs → Q vs H'
abbrev DX (X : Cx) (G : Gm) (W W' : Ow) (e : Expr) (P : VP) : Prop := PE X e (tD G W W' P)
abbrev DE (X : Cx) (G : Gm) (W : Ow) (e : Expr) (P : VP) : Prop := PE X e (tD G W W P)
abbrev DT (X : Cx) (G : Gm) (W : Ow) (e : Expr) (b : Bool) : Prop := PT X e (tT G W b)
abbrev DW (X : Cx) (G : Gm) (W : Ow) (e : Expr) (b : Bool) : Prop := PW X e (tT G W b)
abbrev DA (X : Cx) (G : Gm) (W : Ow) (es : List Expr) (Ps : List VP) : Prop := PA X es (tA G W Ps)
/-- what a statement may end in -/
structure DEn where
  nx : Gm → Ow → Prop := fun _ _ => False
  rt : VP → Ow → Prop := fun _ _ => False
  bk : Gm → Ow → Prop := fun _ _ => False
  ct : Gm → Ow → Prop := fun _ _ => False
structure EndOk (c : Ct) (D : DEn) (E : Ends) : Prop where
  nx : ∀ G W s H, D.nx G W → StOk c G W s H → E.nx s H
  rt : ∀ P G W s v H, D.rt P W → StOk c G W s H → Bx P v (vis c W H) → E.rt v H
  bk : ∀ G W s H, D.bk G W → StOk c G W s H → E.bk s H
  ct : ∀ G W s H, D.ct G W → StOk c G W s H → E.ct s H
def tS (G : Gm) (W : Ow) (D : DEn) : TS := fun E s H => ∃ c, StOk c G W s H ∧ EndOk c D E
abbrev DS (X : Cx) (G : Gm) (W : Ow) (st : Stmt) (D : DEn) : Prop := PS X st (tS G W D)
abbrev DSs (X : Cx) (G : Gm) (W : Ow) (sts : List Stmt) (D : DEn) : Prop := PSs X sts (tS G W D)

theorem PE.to {X : Cx} {e : Expr} {t t' : TE} (h : PE X e t) (q : ∀ s H Q, t' s H Q → t s H Q) : PE X e t' := ⟨fun pins s σ H Q I hw => h.run pins s σ H Q I (q σ H Q hw)⟩
theorem PT.to {X : Cx} {e : Expr} {t t' : TT} (h : PT X e t) (q : ∀ s H Q, t' s H Q → t s H Q) : PT X e t' := ⟨fun pins s σ H Q I hw => h.run pins s σ H Q I (q σ H Q hw)⟩
theorem PW.to {X : Cx} {e : Expr} {t t' : TT} (h : PW X e t) (q : ∀ s H Q, t' s H Q → t s H Q) : PW X e t' := ⟨fun wh pins s σ H Q I hw => h.run wh pins s σ H Q I (q σ H Q hw)⟩
theorem PA.to {X : Cx} {e : List Expr} {t t' : TA} (h : PA X e t) (q : ∀ s H Q, t' s H Q → t s H Q) : PA X e t' := ⟨fun pos pins s σ H Q I hw => h.run pos pins s σ H Q I (q σ H Q hw)⟩
theorem PS.to {X : Cx} {e : Stmt} {t t' : TS} (h : PS X e t) (q : ∀ D s H, t' D s H → t D s H) : PS X e t' := ⟨fun pins s σ H D I hw => h.run pins s σ H D I (q D σ H hw)⟩
theorem PSs.to {X : Cx} {e : List Stmt} {t t' : TS} (h : PSs X e t) (q : ∀ D s H, t' D s H → t D s H) : PSs X e t' := ⟨fun pins s σ H D I hw => h.run pins s σ H D I (q D σ H hw)⟩
end
end SQ
end
section
set_option maxHeartbeats 4000000
namespace SQ
open PySem PySem.Spec PyProof.Rows L2
noncomputable section

/-! ### what may hold of a value -/
def is (x : V) : VP := fun v _ => v = x
/-- a tuple, a list of such values -/
def rTu (K : PySem.W.Frag) (Ps : List VP) : VP := fun v H => ∃ a vs, v = .ref a ∧ SqT K H a vs ∧ Paired (fun P u => Bx P u H) Ps vs
def rLi (_ : PySem.W.Frag) (Ps : List VP) : VP := fun v H => ∃ a vs, v = .ref a ∧ H a = some (.lst vs) ∧ Paired (fun P u => Bx P u H) Ps vs
/-- a tuple that is tracked, by its very items (a key of a dict) -/
def rTr (xs : List V) : VP := fun v H => ∃ a, v = .ref a ∧ H a = some (.tup xs)
/-- an instance: its class, its fields in order -/
def rIn (C : Addr) (ns : List Str) (Ps : List VP) : VP := fun v H => ∃ a dx us, v = .ref a ∧ H a = some (.ins C dx (ns.zip us)) ∧ Paired (fun P u => Bx P u H) Ps us ∧ ns.length = us.length
/-- a dict with tuple keys -/
def rDi (kvs : List (List Key × VP)) : VP := fun v H => ∃ a us, v = .ref a ∧ H a = some (.dT us) ∧ Paired (fun (p : List Key × VP) (q : List Key × V) => p.1 = q.1 ∧ Bx p.2 q.2 H) kvs us

theorem Same.t {K : PySem.W.Frag} {H H' : Hp} {a : Addr} {xs : List V} (e : Same H H') (h : SqT K H a xs) : SqT K H' a xs := by
  rcases h with (h | ⟨o, h⟩) | h
  · exact .inl (.inl (e _ _ h))
  · exact .inl (.inr ⟨o, e _ _ h⟩)
  · exact .inr h
theorem bxs_mono {H H' : Hp} (e : Same H H') : ∀ {Ps : List VP} {vs : List V}, Paired (fun P u => Bx P u H) Ps vs → Paired (fun P u => Bx P u H') Ps vs
  | _, _, .nil => .nil
  | _, _, .cons a r => .cons (a.mono e) (bxs_mono e r)
theorem bxf_mono {κ : Type} {H H' : Hp} (e : Same H H') : ∀ {Ps : List (κ × VP)} {vs : List (κ × V)}, Paired (fun (p : κ × VP) (q : κ × V) => p.1 = q.1 ∧ Bx p.2 q.2 H) Ps vs → Paired (fun (p : κ × VP) (q : κ × V) => p.1 = q.1 ∧ Bx p.2 q.2 H') Ps vs
  | _, _, .nil => .nil
  | _, _, .cons a r => .cons ⟨a.1, a.2.mono e⟩ (bxf_mono e r)
section
variable {K : PySem.W.Frag} {H : Hp} {v : V} {a : Addr} {vs xs : List V} {Ps : List VP} {C dx : Addr} {x : V}
theorem bx_is : Bx (is x) x H := fun _ _ => rfl
theorem Bx.eq (h : Bx (is x) v H) : v = x := h.here
theorem bx_tu (h : SqT K H a vs) (r : Paired (fun P u => Bx P u H) Ps vs) : Bx (rTu K Ps) (.ref a) H := fun _ e => ⟨a, vs, rfl, Same.t e h, bxs_mono e r⟩
theorem bx_li (h : H a = some (.lst vs)) (r : Paired (fun P u => Bx P u H) Ps vs) : Bx (rLi K Ps) (.ref a) H := fun _ e => ⟨a, vs, rfl, e _ _ h, bxs_mono e r⟩
theorem Same.lsq {K : PySem.W.Frag} {H H' : Hp} {a : Addr} {xs : List V} (e : Same H H') (h : H a = some (.lst xs)) : SqL K H' a xs := SqL.of (e _ _ h)
theorem bx_tr (h : H a = some (.tup xs)) : Bx (rTr xs) (.ref a) H := fun _ e => ⟨a, rfl, e _ _ h⟩
theorem bx_in {ns : List Str} (h : H a = some (.ins C dx (ns.zip vs))) (r : Paired (fun P u => Bx P u H) Ps vs) (l : ns.length = vs.length) : Bx (rIn C ns Ps) (.ref a) H := fun _ e => ⟨a, dx, vs, rfl, e _ _ h, bxs_mono e r, l⟩
theorem bx_di {us : List (List Key × V)} {kvs : List (List Key × VP)} (h : H a = some (.dT us)) (r : Paired (fun (p : List Key × VP) (q : List Key × V) => p.1 = q.1 ∧ Bx p.2 q.2 H) kvs us) : Bx (rDi kvs) (.ref a) H := fun _ e => ⟨a, us, rfl, e _ _ h, bxf_mono e r⟩
theorem bxs_is {H : Hp} : ∀ {xs vs : List V}, Paired (fun P u => Bx P u H) (xs.map is) vs → vs = xs
  | [], _, .nil => rfl
  | x :: xs, _, .cons a r => by rw [a.eq, bxs_is r]
theorem is_bxs {H : Hp} : ∀ (xs : List V), Paired (fun P u => Bx P u H) (xs.map is) xs
  | [] => .nil
  | x :: xs => .cons bx_is (is_bxs xs)
/-- a tracked tuple is a tuple -/
theorem tr_tu (h : Bx (rTr xs) v H) : Bx (rTu K (xs.map is)) v H := by
  obtain ⟨a, e, h1⟩ := h.here
  subst e
  exact bx_tu (SqT.of h1) (is_bxs xs)
end
theorem paired_at {α β : Type} {F : α → β → Prop} : ∀ {Ps : List α} {vs : List β} {j : Nat} {P : α}, Paired F Ps vs → Ps[j]? = some P → ∃ v, vs[j]? = some v ∧ F P v
  | _, _, _, _, .nil, e => by simp at e
  | _, _, 0, _, .cons r _, e => by
    simp at e
    subst e
    exact ⟨_, rfl, r⟩
  | _, _, j + 1, P, .cons _ t, e => by
    obtain ⟨v, h1, h2⟩ := paired_at (j := j) t (by simpa using e)
    exact ⟨v, by simpa using h1, h2⟩
theorem paired_atI {α β : Type} {F : α → β → Prop} {Ps : List α} {vs : List β} {i : Int} {P : α} (r : Paired F Ps vs) (h : atI Ps i = some P) : ∃ v, atI vs i = some v ∧ F P v := by
  have hl := Paired.length r
  unfold atI at h ⊢
  rw [← hl]
  cases e : ixN Ps.length i with
  | none => rw [e] at h; cases h
  | some j =>
    rw [e] at h
    exact paired_at r h
theorem paired_app {α β : Type} {F : α → β → Prop} : ∀ {Ps Qs : List α} {vs us : List β}, Paired F Ps vs → Paired F Qs us → Paired F (Ps ++ Qs) (vs ++ us)
  | _, _, _, _, .nil, s => s
  | _, _, _, _, .cons a r, s => .cons a (paired_app r s)
theorem paired_take {α β : Type} {F : α → β → Prop} : ∀ {Ps : List α} {vs : List β} (n : Nat), Paired F Ps vs → Paired F (Ps.take n) (vs.take n)
  | _, _, 0, _ => .nil
  | _, _, _ + 1, .nil => .nil
  | _, _, n + 1, .cons a r => .cons a (paired_take n r)
theorem paired_drop {α β : Type} {F : α → β → Prop} : ∀ {Ps : List α} {vs : List β} (n : Nat), Paired F Ps vs → Paired F (Ps.drop n) (vs.drop n)
  | _, _, 0, r => r
  | _, _, _ + 1, .nil => .nil
  | _, _, n + 1, .cons _ r => paired_drop n r

section
variable {X : Cx} {G : Gm} {W W' : Ow} {e a b : Expr} {P P1 P2 P' : VP} {pos : Pos} {x y z v : V}

/-! ### names, constants -/
theorem de_c (h : PE X e (tC v)) : DE X G W e (is v) := PE.to h fun s H Q ⟨c, S, k⟩ => k v H S (Same.refl _) bx_is
theorem de_int {i : Int} {j} : DE X G W (.Constant (.int i) j pos) (is (.int i)) := de_c pe_int
theorem de_str {z : Str} {j} : DE X G W (.Constant (.str z) j pos) (is (.str z)) := de_c pe_str
theorem de_bl {z : Bool} {j} : DE X G W (.Constant (.bool z) j pos) (is (.bl z)) := de_c pe_bl
theorem de_non {j} : DE X G W (.Constant .none j pos) (is .non) := de_c pe_non
theorem de_var (i : Nat) {n : Str} (hN : X.N[i]? = some n := by rfl) (hG : G[i]? = some (some P) := by rfl) (hv : Vis X.env.scope n := by first | exact Or.inl rfl | exact Or.inr (Or.inl rfl) | exact Or.inr (Or.inr rfl))
    (hd : (n == ("__debug__" : Str)) = false := by decide) (hcd : (n == ("__classdict__" : Str)) = false := by decide) : DE X G W (.Name n pos) P :=
  PE.to (pe_var hN hv hd hcd) fun s H Q ⟨c, S, k⟩ => let ⟨v, h, q⟩ := S.env.2 i P hG; ⟨v, h, k v H S (Same.refl _) q⟩
/-- a global: an int, a text, a def, a class -/
theorem de_glob {n : Str} {v : V} {u : Value} (hm : X.mg n = some u) (r : RelV v u) (hg : Gl X n := by rfl) (hd : (n == ("__debug__" : Str)) = false := by decide) : DE X G W (.Name n pos) (is v) := de_c (pe_glob hg hm r hd)
theorem de_to (h : DX X G W W' e P) (k : ∀ v H, Bx P v H → Bx P' v H) : DX X G W W' e P' := PE.to h fun s H Q ⟨c, S, q⟩ => ⟨c, S, fun v H' S' e b => q v H' S' e (k v _ b)⟩

/-! ### operations on two values -/
/-- r, a rule of the layer, takes what holds of two values to what holds of the answer -/
def RR (W : Ow) (r : R2) (P1 P2 P : VP) : Prop := ∀ (c : Ct) (G : Gm) (s : St) (H : Hp) (v1 v2 : V) (Q : VK), StOk c G W s H → Bx P1 v1 (vis c W H) → Bx P2 v2 (vis c W H) →
  (∀ v H', Same H H' → Bx P v (vis c W H') → Q v H') → r v1 v2 H Q
theorem de_rr {t1 t2 : TE} {r : R2} (hr : RR W r P1 P2 P) (h : PE X e (tOp r (tD G W W P1) (tD G W W P2))) : DE X G W e P := PE.to h fun s H Q ⟨c, S, k⟩ =>
  ⟨c, S, fun v1 H1 S1 e1 b1 => ⟨c, S1, fun v2 H2 S2 e2 b2 => hr c G s H2 v1 v2 Q S2 (b1.mono e2) b2 fun v H3 e3 b3 => k v H3 (S2.same e3) ((e1.trans e2).trans (vis_same e3)) b3⟩⟩
structure OpD (X : Cx) (W : Ow) (f : Value → Value → Sem Value) (P1 P2 P : VP) : Prop where
  ex : ∃ r, OpR X f r ∧ RR W r P1 P2 P
theorem de_bin {op : Operator} (o : OpD X W (binaryOp op) P1 P2 P) (ha : DE X G W a P1) (hb : DE X G W b P2) : DE X G W (.BinOp a op b pos) P :=
  let ⟨r, h1, h2⟩ := o.ex
  de_rr (t1 := tD G W W P1) (t2 := tD G W W P2) h2 (pe_op h1 ha hb)
theorem de_cmp {op : CmpOp} (o : OpD X W (compareOp op) P1 P2 P) (ha : DE X G W a P1) (hb : DE X G W b P2) (hm : behindInMarks op b = false := by first | exact nomark _ | rfl) : DE X G W (.Compare a [op] [b] pos) P :=
  let ⟨r, h1, h2⟩ := o.ex
  de_rr (t1 := tD G W W P1) (t2 := tD G W W P2) h2 (pe_cmpR h1 ha hb hm)
theorem dt_cmp {op : CmpOp} {k : Bool} (o : OpD X W (compareOp op) P1 P2 (is (.bl k))) (ha : DE X G W a P1) (hb : DE X G W b P2) (hm : behindInMarks op b = false := by first | exact nomark _ | rfl) : DT X G W (.Compare a [op] [b] pos) k :=
  let ⟨r, h1, h2⟩ := o.ex
  PT.to (pt_cmpR h1 ha hb hm) fun s H Q ⟨c, S, k⟩ => ⟨c, S, fun v1 H1 S1 e1 b1 => ⟨c, S1, fun v2 H2 S2 e2 b2 => h2 c G s H2 v1 v2 _ S2 (b1.mono e2) b2 fun v H3 e3 b3 =>
    ⟨_, b3.eq, k H3 (S2.same e3) ((e1.trans e2).trans (vis_same e3))⟩⟩⟩
/-- an operation that tells the answer of the values alone -/
theorem od_val {f : Value → Value → Sem Value} {r : R2} (h : OpR X f r) (q : ∀ (H : Hp) (Q : VK), Q z H → r x y H Q) : OpD X W f (is x) (is y) (is z) :=
  ⟨r, h, fun c G s H v1 v2 Q S b1 b2 k => by
    rw [b1.eq, b2.eq]
    exact q H Q (k z H (Same.refl H) bx_is)⟩
section
variable {i j : Int}
theorem od_add : OpD X W (binaryOp .Add) (is (.int i)) (is (.int j)) (is (.int (i + j))) := od_val op_add fun _ _ q => ⟨i, j, rfl, rfl, q⟩
theorem od_sub : OpD X W (binaryOp .Sub) (is (.int i)) (is (.int j)) (is (.int (i - j))) := od_val op_sub fun _ _ q => ⟨i, j, rfl, rfl, q⟩
theorem od_fdiv (h1 : 0 < j) (h2 : j < 1073741824) : OpD X W (binaryOp .FloorDiv) (is (.int i)) (is (.int j)) (is (.int (i / j))) := od_val op_fdiv fun _ _ q => ⟨i, j, rfl, rfl, ⟨h1, h2⟩, q⟩
theorem od_mod (h : 0 < j) : OpD X W (binaryOp .Mod) (is (.int i)) (is (.int j)) (is (.int (i % j))) := od_val op_mod fun _ _ q => ⟨i, j, rfl, rfl, h, q⟩
theorem od_shr (h : 0 ≤ j) : OpD X W (binaryOp .RShift) (is (.int i)) (is (.int j)) (is (.int (i / 2 ^ j.toNat))) := od_val op_shr fun _ _ q => ⟨i, j, rfl, rfl, h, q⟩
theorem od_and : OpD X W (binaryOp .BitAnd) (is (.int i)) (is (.int j)) (is (.int (Builtin.bitAnd i j))) := od_val op_and fun _ _ q => ⟨i, j, rfl, rfl, q⟩
theorem od_or : OpD X W (binaryOp .BitOr) (is (.int i)) (is (.int j)) (is (.int (Builtin.bitOr i j))) := od_val op_or fun _ _ q => ⟨i, j, rfl, rfl, q⟩
theorem od_xor : OpD X W (binaryOp .BitXor) (is (.int i)) (is (.int j)) (is (.int (Builtin.bitXor i j))) := od_val op_xor fun _ _ q => ⟨i, j, rfl, rfl, q⟩
theorem od_lt : OpD X W (compareOp .Lt) (is (.int i)) (is (.int j)) (is (.bl (decide (i < j)))) := od_val op_lt fun _ _ q => ⟨i, j, rfl, rfl, q⟩
theorem od_le : OpD X W (compareOp .LtE) (is (.int i)) (is (.int j)) (is (.bl (decide (i ≤ j)))) := od_val op_le fun _ _ q => ⟨i, j, rfl, rfl, q⟩
theorem od_gt : OpD X W (compareOp .Gt) (is (.int i)) (is (.int j)) (is (.bl (decide (j < i)))) := od_val op_gt fun _ _ q => ⟨i, j, rfl, rfl, q⟩
theorem od_ge : OpD X W (compareOp .GtE) (is (.int i)) (is (.int j)) (is (.bl (decide (j ≤ i)))) := od_val op_ge fun _ _ q => ⟨i, j, rfl, rfl, q⟩
theorem od_eqI : OpD X W (compareOp .Eq) (is (.int i)) (is (.int j)) (is (.bl (decide (i = j)))) := od_val op_eq fun _ _ q => ⟨rfl, by
  have e : decide (V.int i = V.int j) = decide (i = j) := by simp
  rw [e]
  exact q⟩
theorem od_neI : OpD X W (compareOp .NotEq) (is (.int i)) (is (.int j)) (is (.bl (!decide (i = j)))) := od_val op_ne fun _ _ q => ⟨rfl, by
  have e : decide (V.int i = V.int j) = decide (i = j) := by simp
  rw [e]
  exact q⟩
end
theorem od_eqS {i j : Str} : OpD X W (compareOp .Eq) (is (.str i)) (is (.str j)) (is (.bl (decide (i = j)))) := od_val op_eq fun _ _ q => ⟨rfl, by
  have e : decide (V.str i = V.str j) = decide (i = j) := by simp
  rw [e]
  exact q⟩
theorem od_neS {i j : Str} : OpD X W (compareOp .NotEq) (is (.str i)) (is (.str j)) (is (.bl (!decide (i = j)))) := od_val op_ne fun _ _ q => ⟨rfl, by
  have e : decide (V.str i = V.str j) = decide (i = j) := by simp
  rw [e]
  exact q⟩
theorem od_eqB {i j : Bool} : OpD X W (compareOp .Eq) (is (.bl i)) (is (.bl j)) (is (.bl (i == j))) := od_val op_eq fun _ _ q => ⟨rfl, by
  have e : decide (V.bl i = V.bl j) = (i == j) := by cases i <;> cases j <;> rfl
  rw [e]
  exact q⟩
theorem od_addS {i j : Str} (h : i.length + j.length ≤ 100000) : OpD X W (binaryOp .Add) (is (.str i)) (is (.str j)) (is (.str (i ++ j))) := od_val op_add_str fun _ _ q => ⟨i, j, rfl, rfl, Nat.le_trans h (by decide), q⟩
/-- is None: of a value that is known, of an object -/
theorem od_isN : OpD X W (compareOp .Is) (is x) (is .non) (is (.bl (decide (x = .non)))) := od_val op_isN fun _ _ q => ⟨rfl, q⟩
theorem od_notN : OpD X W (compareOp .IsNot) (is x) (is .non) (is (.bl (!decide (x = .non)))) := od_val op_notN fun _ _ q => ⟨rfl, q⟩
/-- a value that is no None -/
def Obj1 (P : VP) : Prop := ∀ v H, P v H → ∃ a, v = .ref a
theorem ob_tu {K : PySem.W.Frag} {Ps : List VP} : Obj1 (rTu K Ps) := fun _ _ ⟨a, _, e, _⟩ => ⟨a, e⟩
theorem ob_li {K : PySem.W.Frag} {Ps : List VP} : Obj1 (rLi K Ps) := fun _ _ ⟨a, _, e, _⟩ => ⟨a, e⟩
theorem ob_in {C : Addr} {ns : List Str} {Ps : List VP} : Obj1 (rIn C ns Ps) := fun _ _ ⟨a, _, _, e, _⟩ => ⟨a, e⟩
theorem od_isNO (o : Obj1 P) : OpD X W (compareOp .Is) P (is .non) (is (.bl false)) := ⟨_, op_isN, fun c G s H v1 v2 Q S b1 b2 k => by
  obtain ⟨a, e⟩ := o _ _ b1.here
  subst e
  exact ⟨b2.eq, k _ H (Same.refl H) (by rw [decide_eq_false (fun z => nomatch z)]; exact bx_is)⟩⟩
theorem od_notNO (o : Obj1 P) : OpD X W (compareOp .IsNot) P (is .non) (is (.bl true)) := ⟨_, op_notN, fun c G s H v1 v2 Q S b1 b2 k => by
  obtain ⟨a, e⟩ := o _ _ b1.here
  subst e
  exact ⟨b2.eq, k _ H (Same.refl H) (by rw [decide_eq_false (fun z => nomatch z)]; exact bx_is)⟩⟩
/-- a chain of two comparisons of ints -/
theorem de_chain {op op' : CmpOp} {cc : Expr} {k k' : Bool} {P3 : VP} (o : OpD X W (compareOp op) P1 P2 (is (.bl k))) (o' : k = true → OpD X W (compareOp op') P2 P3 (is (.bl k'))) (ha : DE X G W a P1) (hb : DE X G W b P2) (hc : k = true → DE X G W cc P3)
    (hm : lastMarks [op, op'] [b, cc] = false := by rfl) : DE X G W (.Compare a [op, op'] [b, cc] pos) (is (.bl (k && k'))) := by
  obtain ⟨r, h1, h2⟩ := o.ex
  cases k with
  | false =>
    refine PE.to (pe_chain (r' := fun _ _ _ _ => False) (tc := fun _ _ _ => False) h1 (fun _ _ _ _ _ _ _ _ _ _ _ _ z => z.elim) ha hb ⟨fun _ _ _ _ _ _ z => z.elim⟩ hm) fun s H Q ⟨c, S, k⟩ => ⟨c, S, fun v1 H1 S1 e1 b1 => ⟨c, S1, fun v2 H2 S2 e2 b2 =>
      h2 c G s H2 v1 v2 _ S2 (b1.mono e2) b2 fun v H3 e3 b3 => ⟨false, b3.eq, ?_⟩⟩⟩
    exact iteF (k _ H3 (S2.same e3) ((e1.trans e2).trans (vis_same e3)) bx_is)
  | true =>
    obtain ⟨r', h1', h2'⟩ := (o' rfl).ex
    refine PE.to (pe_chain h1 h1' ha hb (hc rfl) hm) fun s H Q ⟨c, S, k⟩ => ⟨c, S, fun v1 H1 S1 e1 b1 => ⟨c, S1, fun v2 H2 S2 e2 b2 =>
      h2 c G s H2 v1 v2 _ S2 (b1.mono e2) b2 fun v H3 e3 b3 => ⟨true, b3.eq, ?_⟩⟩⟩
    exact iteT ⟨c, S2.same e3, fun v4 H4 S4 e4 b4 => h2' c G s H4 v2 v4 Q S4 (b2.mono ((vis_same e3).trans e4)) b4 fun v5 H5 e5 b5 => k v5 H5 (S4.same e5) ((((e1.trans e2).trans (vis_same e3)).trans e4).trans (vis_same e5)) b5⟩

/-! ### one value -/
theorem de_neg {i : Int} (ha : DE X G W a (is (.int i))) : DE X G W (.UnaryOp .USub a pos) (is (.int (-i))) := PE.to (pe_un un_neg ha) fun s H Q ⟨c, S, k⟩ =>
  ⟨c, S, fun v H1 S1 e1 b1 => ⟨i, b1.eq, k _ H1 S1 e1 bx_is⟩⟩
theorem de_not {k : Bool} (ha : DE X G W a (is (.bl k))) : DE X G W (.UnaryOp .Not a pos) (is (.bl (!k))) := PE.to (pe_not ha) fun s H Q ⟨c, S, q⟩ =>
  ⟨c, S, fun v H1 S1 e1 b1 => ⟨k, b1.eq, q _ H1 S1 e1 bx_is⟩⟩

/-! ### tests -/
section
variable {k l : Bool} {rest : List Expr}
theorem dt_val (h : DE X G W e (is (.bl k))) (he : ∀ whole, isTrue e X.env whole = (do let v ← whole; standAt e.pos; holding [v] (truthy v)) := by intro _; rfl) : DT X G W e k := PT.to (pt_val h he) fun s H Q ⟨c, S, q⟩ =>
  ⟨c, S, fun v H1 S1 e1 b1 => ⟨k, b1.eq, q H1 S1 e1⟩⟩
theorem dt_of (h : DW X G W e k) : DT X G W e k := h.pt
theorem dt_not (h : DT X G W a k) : DT X G W (.UnaryOp .Not a pos) (!k) := PT.to (pt_not h) fun s H Q ⟨c, S, q⟩ => ⟨c, S, q⟩
theorem dw_and1 (h : DT X G W a k) : DW X G W (.BoolOp .And [a] pos) k := pw_and1 h
theorem dw_or1 (h : DT X G W a k) : DW X G W (.BoolOp .Or [a] pos) k := pw_or1 h
theorem pw_no {e : Expr} : PW X e (fun _ _ _ => False) := ⟨fun _ _ _ _ _ _ _ z => z.elim⟩
theorem dw_and (h : DT X G W a k) (hr : k = true → DW X G W (.BoolOp .And (b :: rest) pos) l) : DW X G W (.BoolOp .And (a :: b :: rest) pos) (k && l) := by
  cases k with
  | false => exact PW.to (pw_and h pw_no) fun s H Q ⟨c, S, q⟩ => ⟨c, S, fun H1 S1 e1 => iteF (q H1 S1 e1)⟩
  | true => exact PW.to (pw_and h (hr rfl)) fun s H Q ⟨c, S, q⟩ => ⟨c, S, fun H1 S1 e1 => iteT ⟨c, S1, fun H2 S2 e2 => q H2 S2 (e1.trans e2)⟩⟩
theorem dw_or (h : DT X G W a k) (hr : k = false → DW X G W (.BoolOp .Or (b :: rest) pos) l) : DW X G W (.BoolOp .Or (a :: b :: rest) pos) (k || l) := by
  cases k with
  | true => exact PW.to (pw_or h pw_no) fun s H Q ⟨c, S, q⟩ => ⟨c, S, fun H1 S1 e1 => iteT (q H1 S1 e1)⟩
  | false => exact PW.to (pw_or h (hr rfl)) fun s H Q ⟨c, S, q⟩ => ⟨c, S, fun H1 S1 e1 => iteF ⟨c, S1, fun H2 S2 e2 => q H2 S2 (e1.trans e2)⟩⟩
theorem pe_no {e : Expr} : PE X e (fun _ _ _ => False) := ⟨fun _ _ _ _ _ _ z => z.elim⟩
/-- and, or as values -/
theorem de_one {op} (h : DE X G W a P) : DE X G W (.BoolOp op [a] pos) P := pe_one h
theorem de_and (h : DE X G W a (is (.bl k))) (hr : k = true → DE X G W (.BoolOp .And (b :: rest) pos) (is (.bl l))) : DE X G W (.BoolOp .And (a :: b :: rest) pos) (is (.bl (k && l))) := by
  cases k with
  | false => exact PE.to (pe_and h pe_no) fun s H Q ⟨c, S, q⟩ => ⟨c, S, fun v H1 S1 e1 b1 => ⟨false, b1.eq, iteF (q _ H1 S1 e1 bx_is)⟩⟩
  | true => exact PE.to (pe_and h (hr rfl)) fun s H Q ⟨c, S, q⟩ => ⟨c, S, fun v H1 S1 e1 b1 => ⟨true, b1.eq, iteT ⟨c, S1, fun v2 H2 S2 e2 b2 => q v2 H2 S2 (e1.trans e2) b2⟩⟩⟩
theorem de_or (h : DE X G W a (is (.bl k))) (hr : k = false → DE X G W (.BoolOp .Or (b :: rest) pos) (is (.bl l))) : DE X G W (.BoolOp .Or (a :: b :: rest) pos) (is (.bl (k || l))) := by
  cases k with
  | true => exact PE.to (pe_or h pe_no) fun s H Q ⟨c, S, q⟩ => ⟨c, S, fun v H1 S1 e1 b1 => ⟨true, b1.eq, iteT (q _ H1 S1 e1 bx_is)⟩⟩
  | false => exact PE.to (pe_or h (hr rfl)) fun s H Q ⟨c, S, q⟩ => ⟨c, S, fun v H1 S1 e1 b1 => ⟨false, b1.eq, iteF ⟨c, S1, fun v2 H2 S2 e2 b2 => q v2 H2 S2 (e1.trans e2) b2⟩⟩⟩
/-- a if t else b -/
theorem de_if {t : Expr} (h : DT X G W t k) (h1 : k = true → DE X G W a P) (h2 : k = false → DE X G W b P) : DE X G W (.IfExp t a b pos) P := by
  cases k with
  | true => exact PE.to (pe_ifExp h (h1 rfl) pe_no) fun s H Q ⟨c, S, q⟩ => ⟨c, S, fun H1 S1 e1 => iteT ⟨c, S1, fun v2 H2 S2 e2 b2 => q v2 H2 S2 (e1.trans e2) b2⟩⟩
  | false => exact PE.to (pe_ifExp h pe_no (h2 rfl)) fun s H Q ⟨c, S, q⟩ => ⟨c, S, fun H1 S1 e1 => iteF ⟨c, S1, fun v2 H2 S2 e2 b2 => q v2 H2 S2 (e1.trans e2) b2⟩⟩
end

/-! ### argument lists, displays -/
theorem da_nil : DA X G W [] [] := PA.to pa_nil fun s H Q ⟨c, S, k⟩ => k [] H S (Same.refl _) .nil
theorem da_cons {es : List Expr} {Ps : List VP} (ha : DE X G W e P) (hr : DA X G W es Ps) (hs : starEach (e :: es) X.env = (false, eval e X.env) :: starEach es X.env := by rfl) : DA X G W (e :: es) (P :: Ps) :=
  PA.to (pa_cons ha hr hs) fun s H Q ⟨c, S, k⟩ => ⟨c, S, fun v H1 S1 e1 b1 => ⟨c, S1, fun vs H2 S2 e2 b2 => k (v :: vs) H2 S2 (e1.trans e2) (.cons (b1.mono e2) b2)⟩⟩
theorem sz_of {n : Nat} (h : n ≤ 100000) : n ≤ sizeLine := Nat.le_trans h (by decide)
theorem de_tup {es : List Expr} {Ps : List VP} {x1} (h : DA X G W es Ps) (hl : Ps.length ≤ 100000 := by exact Nat.le_of_ble_eq_true rfl) : DE X G W (.Tuple es x1 pos) (rTu X.K Ps) :=
  PE.to (pe_tup h) fun s H Q ⟨c, S, k⟩ => ⟨c, S, fun vs H1 S1 e1 b1 => ⟨by rw [← Paired.length b1]; exact sz_of hl, fun p np =>
    k _ _ (S1.same (Same.new np)) (e1.trans (vis_same (Same.new np))) (bx_tu (SqT.of (S1.newV np)) (bxs_mono (vis_same (Same.new np)) b1))⟩⟩
theorem de_lst {es : List Expr} {Ps : List VP} (h : DA X G W es Ps) (hl : Ps.length ≤ 100000 := by exact Nat.le_of_ble_eq_true rfl) : DE X G W (.List es pos) (rLi X.K Ps) :=
  PE.to (pe_lst h) fun s H Q ⟨c, S, k⟩ => ⟨c, S, fun vs H1 S1 e1 b1 => ⟨by rw [← Paired.length b1]; exact sz_of hl, fun p np =>
    k _ _ (S1.same (Same.new np)) (e1.trans (vis_same (Same.new np))) (bx_li (S1.newV np) (bxs_mono (vis_same (Same.new np)) b1))⟩⟩
/-- a tuple of plain values: its very items -/
theorem de_tupV {es : List Expr} (xs : List V) {x1} (h : DA X G W es (xs.map is)) (hl : xs.length ≤ 100000 := by exact Nat.le_of_ble_eq_true rfl) : DE X G W (.Tuple es x1 pos) (rTr xs) :=
  PE.to (pe_tup h) fun s H Q ⟨c, S, k⟩ => ⟨c, S, fun vs H1 S1 e1 b1 => by
    have ev := bxs_is b1
    subst ev
    exact ⟨sz_of hl, fun p np => k _ _ (S1.same (Same.new np)) (e1.trans (vis_same (Same.new np))) (bx_tr (S1.newV np))⟩⟩

/-! ### subscripts -/
theorem de_ixL {Ps : List VP} {i : Int} (ha : DE X G W a (rLi X.K Ps)) (hb : DE X G W b (is (.int i))) (h : atI Ps i = some P) (hs : PlainIx b := by exact fun _ _ => rfl) : DE X G W (.Subscript a b pos) P :=
  de_rr (t1 := tD G W W (rLi X.K Ps)) (t2 := tD G W W (is (.int i))) (fun c G s H v1 v2 Q S b1 b2 k => by
    obtain ⟨p, vs, e, hq, r⟩ := b1.here
    obtain ⟨v, hv, bv⟩ := paired_atI r h
    exact ⟨p, vs, i, v, e, b2.eq, Same.lsq vis_sub hq, hv, k v H (Same.refl H) bv⟩) (pe_ix ix_list ha hb hs)
theorem de_ixT {Ps : List VP} {i : Int} (ha : DE X G W a (rTu X.K Ps)) (hb : DE X G W b (is (.int i))) (h : atI Ps i = some P) (hs : PlainIx b := by exact fun _ _ => rfl) : DE X G W (.Subscript a b pos) P :=
  de_rr (t1 := tD G W W (rTu X.K Ps)) (t2 := tD G W W (is (.int i))) (fun c G s H v1 v2 Q S b1 b2 k => by
    obtain ⟨p, vs, e, hq, r⟩ := b1.here
    obtain ⟨v, hv, bv⟩ := paired_atI r h
    exact ⟨p, vs, i, v, e, b2.eq, Same.t vis_sub hq, hv, k v H (Same.refl H) bv⟩) (pe_ix ix_tup ha hb hs)
theorem atI_map {α β : Type} {f : α → β} {xs : List α} {i : Int} {x : α} (h : atI xs i = some x) : atI (xs.map f) i = some (f x) := by
  unfold atI at h ⊢
  rw [List.length_map]
  cases e : ixN xs.length i with
  | none => rw [e] at h; cases h
  | some j =>
    rw [e] at h
    show (xs.map f)[j]? = some (f x)
    rw [List.getElem?_map, show xs[j]? = some x from h]
    rfl
theorem de_ixTr {xs : List V} {i : Int} (ha : DE X G W a (rTr xs)) (hb : DE X G W b (is (.int i))) (h : atI xs i = some x) (hs : PlainIx b := by exact fun _ _ => rfl) : DE X G W (.Subscript a b pos) (is x) :=
  de_ixT (de_to ha fun _ _ q => tr_tu q) hb (atI_map h) hs
end
end
end SQ
end
section
set_option maxHeartbeats 4000000
namespace SQ
open PySem PySem.Spec PyProof.Rows L2
noncomputable section

/-! ### what a def promises -/
/-- with such arguments, owning W, it hands back a P and leaves W' -/
def SpF (Ps : List VP) (W W' : Ow) (P : VP) : Sp := fun vs H Q _ => ∃ c, StOk c (Ps.map some) W (vs.map some) H ∧ ∀ v H' G' s', StOk c G' W' s' H' → Bx P v (vis c W' H') → Q v H'
theorem env_of {H : Hp} {Ps : List VP} {vs : List V} (r : Paired (fun P u => Bx P u H) Ps vs) : EnvR (Ps.map some) (vs.map some) H := by
    refine ⟨by rw [List.length_map, List.length_map, Paired.length r], fun i P h => ?_⟩
    rw [List.getElem?_map] at h
    cases e : Ps[i]? with
    | none => rw [e] at h; cases h
    | some Q =>
      rw [e] at h
      cases h
      obtain ⟨v, h1, h2⟩ := paired_at r e
      exact ⟨v, by rw [List.getElem?_map, h1]; rfl, h2⟩
theorem of_env {H : Hp} : ∀ {Ps : List VP} {vs : List V}, EnvR (Ps.map some) (vs.map some) H → Paired (fun P u => Bx P u H) Ps vs
  | [], [], _ => .nil
  | [], _ :: _, h => by have := h.1; simp at this
  | _ :: _, [], h => by have := h.1; simp at this
  | P :: Ps, v :: vs, h => by
    obtain ⟨u, e, b⟩ := h.2 0 P rfl
    have e' : v = u := by simpa using e
    subst e'
    refine .cons b (of_env ⟨by simpa using h.1, fun i Q q => ?_⟩)
    exact h.2 (i + 1) Q (by simpa using q)
theorem SpF.len {Ps : List VP} {W W' : Ow} {P : VP} {vs : List V} {H : Hp} {Q : VK} {E : XK} (h : SpF Ps W W' P vs H Q E) : vs.length = Ps.length := by
  obtain ⟨c, S, _⟩ := h
  have := S.env.1
  rw [List.length_map, List.length_map] at this
  exact this.symm
/-- a def of the module, by its name -/
structure FnG (prog : Program) (w : World) (K : PySem.W.Frag) (mg : Str → Option Value) (base : Heap) (x : Str) (L : Nat) (Ps : List VP) (W W' : Ow) (P : VP) : Prop where
  ex : ∃ f, mg x = some (.ref f) ∧ PySem.W.keepIn K (.ref f) = true ∧ FnR prog w K mg base CX0 L f (SpF Ps W W' P)
/-- a method of the class at C -/
structure MtG (prog : Program) (w : World) (K : PySem.W.Frag) (mg : Str → Option Value) (base : Heap) (C : Addr) (m : Str) (L : Nat) (Ps : List VP) (W W' : Ow) (P : VP) : Prop where
  ex : ∃ f, Meth K C m f ∧ FnR prog w K mg base CX0 L f (SpF Ps W W' P)
section
variable {X : Cx} {CX : CXT} {k L : Nat} {f : Addr} {sp : Sp} {E : XK} {x : Str} {e a b : Expr} {es : List Expr} {t : TA} {p pos apos : Pos} {G : Gm} {W W0 W0' W1 W' : Ow} {P P1 P2 : VP} {Ps : List VP}
theorem pe_callR (F : FnR X.prog X.w X.K X.mg X.base CX k f sp) (hr : Room k X.A) (hg : Gl X x) (hm : X.mg x = some (.ref f)) (hk : PySem.W.keepIn X.K (.ref f) = true) (hx : Passes CX X E) (ha : PA X (e :: es) t) (hd : (x == ("__debug__" : Str)) = false := by decide)
    (he : starEach (e :: es) X.env = (false, eval e X.env) :: starEach es X.env := by rfl) (hpl : (backTo pos (starEach es X.env)).any (·.1) = false := by rfl) :
    PE X (.Call (.Name x p) (e :: es) [] pos) (fun σ H Q => t σ H fun vs H1 => sp vs H1 Q E) := by
  refine ⟨fun pins s σ H Q I h => ?_⟩
  refine wpAny_Call_Name_kw (ld_glob I hg hm ?_ hd)
  refine PySem.W.callWith_K (h₀ := X.base) I.ok.mod.kin hk (thn (ha.run pos pins s σ H _ I h) fun us s1 ⟨vs, H1, I1, r, q⟩ => ⟨I1.kIn, ?_⟩) he hpl
  exact wpAny_call (run_fnR F hr hx I1 r q)
theorem pe_callR0 (F : FnR X.prog X.w X.K X.mg X.base CX k f sp) (hr : Room k X.A) (hg : Gl X x) (hm : X.mg x = some (.ref f)) (hk : PySem.W.keepIn X.K (.ref f) = true) (hx : Passes CX X E) (hd : (x == ("__debug__" : Str)) = false := by decide) :
    PE X (.Call (.Name x p) [] [] pos) (fun σ H Q => sp [] H Q E) := by
  refine ⟨fun pins s σ H Q I h => ?_⟩
  refine wpAny_Call_Name_kw (ld_glob I hg hm ?_ hd)
  exact PySem.W.callWith_K0 I.kIn hk (wpAny_call (run_fnR (us := []) F hr hx I .nil h))
/-- what a promise gives its caller -/
theorem spf_use {c : Ct} {s : St} {H : Hp} {vs : List V} {Q : VK} {E : XK} (S : StOk c G W s H) (r : Paired (fun P v => Bx P v (vis c W H)) Ps vs) (hs : ∀ p ∈ W0, p ∈ W) (nd : (W0.map (·.1)).Nodup) (he : W0'.map (·.1) = W0.map (·.1)) (h1 : W1.map (·.1) = W.map (·.1))
    (hC : ∀ a C, (a, C) ∈ W1 → (a, C) ∈ W0' ∨ ((a, C) ∈ W ∧ ¬ inO W0 a)) (k : ∀ v H', StOk c G W1 s H' → Same (vis c W H) (vis c W1 H') → Bx P v (vis c W1 H') → Q v H') : SpF Ps W0 W0' P vs H Q E := by
  refine ⟨c.sub W W0 H, S.sub hs nd (env_of r), fun v H' G' s' S2 b => ?_⟩
  obtain ⟨a1, a2, a3⟩ := S.back hs S2 he h1 hC
  rw [a3] at b
  exact k v H' a1 a2 b
theorem spf_use0 {c : Ct} {s : St} {H : Hp} {vs : List V} {Q : VK} {E : XK} (S : StOk c G W s H) (r : Paired (fun P v => Bx P v (vis c W H)) Ps vs) (k : ∀ v H', StOk c G W s H' → Same (vis c W H) (vis c W H') → Bx P v (vis c W H') → Q v H') : SpF Ps [] [] P vs H Q E :=
  spf_use (W1 := W) S r (fun _ h => nomatch h) List.nodup_nil rfl rfl (fun a C h => .inr ⟨h, fun z => nomatch z⟩) k
theorem dx_call (F : FnG X.prog X.w X.K X.mg X.base x L Ps W0 W0' P) (hr : Room k X.A) (ha : DA X G W (e :: es) Ps) (hs : ∀ p ∈ W0, p ∈ W) (nd : (W0.map (·.1)).Nodup) (hw : W0'.map (·.1) = W0.map (·.1)) (h1 : W1.map (·.1) = W.map (·.1))
    (hC : ∀ (c : Ct) (G : Gm) (s : St) (H : Hp), StOk c G W s H → ∀ a C, (a, C) ∈ W1 → (a, C) ∈ W0' ∨ ((a, C) ∈ W ∧ ¬ inO W0 a)) (hl : L ≤ k := by decide) (hg : Gl X x := by rfl) (hd : (x == ("__debug__" : Str)) = false := by decide)
    (he : starEach (e :: es) X.env = (false, eval e X.env) :: starEach es X.env := by rfl) (hpl : (backTo pos (starEach es X.env)).any (·.1) = false := by rfl) : DX X G W W1 (.Call (.Name x p) (e :: es) [] pos) P := by
  obtain ⟨f, hm, hk, F⟩ := F.ex
  exact PE.to (pe_callR (F.mono hl) hr hg hm hk pass0 ha hd he hpl) fun s H Q ⟨c, S, q⟩ => ⟨c, S, fun vs H1 S1 e1 b1 =>
    spf_use S1 b1 hs nd hw h1 (hC c G s H1 S1) fun v H' S' e2 b2 => q v H' S' (e1.trans e2) b2⟩
/-- a call that owns nothing -/
theorem de_call (F : FnG X.prog X.w X.K X.mg X.base x L Ps [] [] P) (hr : Room k X.A) (ha : DA X G W (e :: es) Ps) (hl : L ≤ k := by decide) (hg : Gl X x := by rfl) (hd : (x == ("__debug__" : Str)) = false := by decide)
    (he : starEach (e :: es) X.env = (false, eval e X.env) :: starEach es X.env := by rfl) (hpl : (backTo pos (starEach es X.env)).any (·.1) = false := by rfl) : DE X G W (.Call (.Name x p) (e :: es) [] pos) P :=
  dx_call F hr ha (fun _ h => nomatch h) List.nodup_nil rfl rfl (fun _ _ _ _ _ a C h => .inr ⟨h, fun z => nomatch z⟩) hl hg hd he hpl
theorem de_call0 (F : FnG X.prog X.w X.K X.mg X.base x L [] [] [] P) (hr : Room k X.A) (hl : L ≤ k := by decide) (hg : Gl X x := by rfl) (hd : (x == ("__debug__" : Str)) = false := by decide) : DE X G W (.Call (.Name x p) [] [] pos) P := by
  obtain ⟨f, hm, hk, F⟩ := F.ex
  exact PE.to (pe_callR0 (F.mono hl) hr hg hm hk pass0 hd) fun s H Q ⟨c, S, q⟩ => spf_use0 S .nil fun v H' S' e2 b2 => q v H' S' e2 b2
theorem own_one {c : Ct} {s : St} {H : Hp} {a : Addr} {C : OC} (S : StOk c G W s H) (h : (a, C) ∈ W) : ∀ b D, (b, D) ∈ W → (b, D) ∈ [(a, C)] ∨ ((b, D) ∈ W ∧ ¬ inO [(a, C)] b) := fun b D hb => by
  by_cases e : b = a
  · subst e
    refine .inl ?_
    have n := S.nd
    obtain ⟨i, hi⟩ := List.getElem?_of_mem h
    obtain ⟨j, hj⟩ := List.getElem?_of_mem hb
    have e1 : (W.map (·.1))[i]? = some b := by rw [List.getElem?_map, hi]; rfl
    have e2 : (W.map (·.1))[j]? = some b := by rw [List.getElem?_map, hj]; rfl
    have ij := nd_ix' n e1 e2
    subst ij
    rw [hi] at hj
    cases hj
    exact List.mem_singleton.mpr rfl
  · exact .inr ⟨hb, fun z => e (by simpa [inO] using z)⟩
where
  nd_ix' {l : List Addr} (hN : l.Nodup) {i j : Nat} {x : Addr} (a : l[i]? = some x) (b : l[j]? = some x) : i = j := by
    obtain ⟨h1, e1⟩ := List.getElem?_eq_some_iff.mp a
    obtain ⟨h2, e2⟩ := List.getElem?_eq_some_iff.mp b
    exact (List.getElem_inj hN).mp (e1.trans e2.symm)
/-- a call that owns one thing, of which it says the same behind -/
theorem de_callO {q : Addr} {C : OC} (F : FnG X.prog X.w X.K X.mg X.base x L Ps [(q, C)] [(q, C)] P) (hr : Room k X.A) (ha : DA X G W (e :: es) Ps) (hq : (q, C) ∈ W := by first | exact List.mem_cons_self | simp) (hl : L ≤ k := by decide) (hg : Gl X x := by rfl) (hd : (x == ("__debug__" : Str)) = false := by decide)
    (he : starEach (e :: es) X.env = (false, eval e X.env) :: starEach es X.env := by rfl) (hpl : (backTo pos (starEach es X.env)).any (·.1) = false := by rfl) : DE X G W (.Call (.Name x p) (e :: es) [] pos) P :=
  dx_call F hr ha (fun r h => by rw [List.mem_singleton.mp h]; exact hq) (by simp) rfl rfl (fun c G s H S => own_one S hq) hl hg hd he hpl

/-! ### attributes, methods -/
theorem lk_zip : ∀ {ns : List Str} {us : List V} {i : Nat} {f : Str} {v : V}, ns.findIdx? (fun n => f == n) = some i → us[i]? = some v → (ns.zip us).lookup f = some v
  | [], _, _, _, _, h, _ => by simp at h
  | n :: ns, [], i, f, v, _, hv => by simp at hv
  | n :: ns, u :: us, i, f, v, h, hv => by
    rw [List.findIdx?_cons] at h
    show (match f == n with | true => some u | false => (ns.zip us).lookup f) = some v
    cases e : f == n with
    | true =>
      rw [e] at h
      cases h
      simpa using hv
    | false =>
      rw [e] at h
      simp only [Bool.false_eq_true, if_false, Option.map_eq_some_iff] at h
      obtain ⟨j, hj, rfl⟩ := h
      exact lk_zip hj (by simpa using hv)
theorem lk_zipN : ∀ {ns : List Str} {us : List V} {f : Str}, ns.findIdx? (fun n => f == n) = none → (ns.zip us).lookup f = none
  | [], _, _, _ => rfl
  | n :: ns, [], f, _ => rfl
  | n :: ns, u :: us, f, h => by
    rw [List.findIdx?_cons] at h
    show (match f == n with | true => some u | false => (ns.zip us).lookup f) = none
    cases e : f == n with
    | true =>
      rw [e] at h
      cases h
    | false =>
      rw [e] at h
      simp only [Bool.false_eq_true, if_false, Option.map_eq_none_iff] at h
      exact lk_zipN h
theorem de_fld {C : Addr} {ns : List Str} {m : Str} (i : Nat) (c : Cls X.K C) (na : NoAttr X.K C m) (ha : DE X G W a (rIn C ns Ps)) (hi : ns.findIdx? (fun n => m == n) = some i := by decide +kernel) (hP : Ps[i]? = some P := by rfl)
    (hb : attributeBase a m X.env (eval a X.env) = eval a X.env := by rfl) : DE X G W (.Attribute a m pos) P := PE.to (pe_fld ha hb) fun s H Q ⟨c0, S, q⟩ => ⟨c0, S, fun v H1 S1 e1 b1 => by
  obtain ⟨p, dx, us, e, h, r, l⟩ := b1.here
  obtain ⟨u, hu, bu⟩ := paired_at r hP
  exact ⟨p, C, dx, ns.zip us, u, e, vis_sub _ _ h, c, na, lk_zip hi hu, q u H1 S1 e1 bu⟩⟩
/-- o.m(e, ..) -/
theorem de_meth {C : Addr} {ns : List Str} {m : Str} {Qs : List VP} (c : Cls X.K C) (F : MtG X.prog X.w X.K X.mg X.base C m L (rIn C ns Qs :: Ps) [] [] P) (hr : Room k X.A) (ho : DE X G W a (rIn C ns Qs)) (ha : DA X G W (e :: es) Ps) (hl : L ≤ k := by decide)
    (hm0 : ns.findIdx? (fun n => m == n) = none := by decide +kernel)
    (hst : starEach (e :: es) X.env = (false, eval e X.env) :: starEach es X.env := by rfl) (hpl : (backTo pos (starEach es X.env)).any (·.1) = false := by rfl) {pl : Sem Bool}
    (ht : eval (.Call (.Attribute a m apos) (e :: es) [] pos) X.env = (do
      let ov ← eval a X.env
      standAt apos.atName
      let (f, first) ← holding [ov] (getMethod ov m pl)
      callWith pos f first (backTo pos (starEach (e :: es) X.env)) (backToKw pos (keywordEach [] X.env))) := by rfl) : DE X G W (.Call (.Attribute a m apos) (e :: es) [] pos) P := by
  obtain ⟨f, hm, F⟩ := F.ex
  exact PE.to (pe_methR (pl := pl) ho c hm (F.mono hl) hr pass0 ha hst hpl ht) fun s H Q ⟨c0, S, q⟩ => ⟨c0, S, fun v H1 S1 e1 b1 => by
    obtain ⟨p, dx, us, ev, h, r, l⟩ := id b1.here
    exact ⟨p, dx, ns.zip us, ev, vis_sub _ _ h, lk_zipN hm0, c0, S1, fun vs H2 S2 e2 b2 => spf_use0 S2 (.cons (b1.mono e2) b2) fun v2 H3 S3 e3 b3 => q v2 H3 S3 ((e1.trans e2).trans e3) b3⟩⟩

/-! ### built-in functions and types, methods of built-in types -/
def RC (W : Ow) (r : List V → Hp → VK → Prop) (Ps : List VP) (P : VP) : Prop := ∀ (c : Ct) (G : Gm) (s : St) (H : Hp) (vs : List V) (Q : VK), StOk c G W s H → Paired (fun P v => Bx P v (vis c W H)) Ps vs → (∀ v H', Same H H' → Bx P v (vis c W H') → Q v H') → r vs H Q
structure CaD (X : Cx) (W : Ow) (f : Value) (Ps : List VP) (P : VP) : Prop where
  ex : ∃ r, CallR X f r ∧ RC W r Ps P
theorem de_bi {id : String} (o : CaD X W (.builtin id) Ps P) (hm : X.mg x = none) (hv : bootBuiltins x = some (.builtin id)) (ha : DA X G W (e :: es) Ps) (hg : Gl X x := by rfl) (hn : x ≠ "__name__" := by decide) (hd : (x == ("__debug__" : Str)) = false := by decide)
    (he : starEach (e :: es) X.env = (false, eval e X.env) :: starEach es X.env := by rfl) (hpl : (backTo pos (starEach es X.env)).any (·.1) = false := by rfl) : DE X G W (.Call (.Name x p) (e :: es) [] pos) P := by
  obtain ⟨r, h1, h2⟩ := o.ex
  exact PE.to (pe_callB h1 hg hm hv ha hn hd he hpl) fun s H Q ⟨c, S, q⟩ => ⟨c, S, fun vs H1 S1 e1 b1 => h2 c G s H1 vs Q S1 b1 fun v H2 e2 b2 => q v H2 (S1.same e2) (e1.trans (vis_same e2)) b2⟩
theorem de_ty {T : String} (o : CaD X W (.type T) Ps P) (hm : X.mg x = none) (hv : bootBuiltins x = some (.type T)) (ha : DA X G W (e :: es) Ps) (hg : Gl X x := by rfl) (hn : x ≠ "__name__" := by decide) (hd : (x == ("__debug__" : Str)) = false := by decide)
    (he : starEach (e :: es) X.env = (false, eval e X.env) :: starEach es X.env := by rfl) (hpl : (backTo pos (starEach es X.env)).any (·.1) = false := by rfl) : DE X G W (.Call (.Name x p) (e :: es) [] pos) P := by
  obtain ⟨r, h1, h2⟩ := o.ex
  exact PE.to (pe_callTy h1 hg hm hv ha hn hd he hpl) fun s H Q ⟨c, S, q⟩ => ⟨c, S, fun vs H1 S1 e1 b1 => h2 c G s H1 vs Q S1 b1 fun v H2 e2 b2 => q v H2 (S1.same e2) (e1.trans (vis_same e2)) b2⟩
end
end
end SQ
end
section
set_option maxHeartbeats 4000000
namespace SQ
open PySem PySem.Spec PyProof.Rows L2
noncomputable section
section
variable {X : Cx} {k L : Nat} {x : Str} {e a b : Expr} {es : List Expr} {p pos pos' apos : Pos} {G G' : Gm} {W W' W1 : Ow} {P P1 P2 : VP} {Ps : List VP} {D : DEn} {st : Stmt} {rest body : List Stmt}

/-! ### blocks -/
/-- any of these states -/
def tAny (R : Gm → Ow → Prop) (D : DEn) : TS := fun E s H => ∃ c G W, R G W ∧ StOk c G W s H ∧ EndOk c D E
theorem pss_any {R : Gm → Ow → Prop} (h : ∀ G W, R G W → DSs X G W rest D) : PSs X rest (tAny R D) := ⟨fun pins s σ H E I ⟨c, G, W, r, S, eo⟩ => (h G W r).run pins s σ H E I ⟨c, S, eo⟩⟩
theorem dss_cons (h : DS X G W st { D with nx := fun G' W' => DSs X G' W' rest D }) : DSs X G W (st :: rest) D :=
  PSs.to (pss_cons h (pss_any (R := fun G' W' => DSs X G' W' rest D) fun _ _ z => z)) fun E s H ⟨c, S, eo⟩ => ⟨c, S, ⟨fun G' W' s' H' hn S' => ⟨c, G', W', hn, S', eo⟩, eo.rt, eo.bk, eo.ct⟩⟩
theorem dss_nil (h : D.nx G W) : DSs X G W [] D := PSs.to pss_nil fun E s H ⟨c, S, eo⟩ => eo.nx G W s H h S
theorem dss_one (h : DS X G W st D) : DSs X G W [st] D := PSs.to (pss_one h) fun E s H z => z
/-- what a slot holds may be known better -/
theorem dss_ex {i : Nat} {α : Type} {pre : α → Prop} {r : α → VP} (hG : G[i]? = some (some (fun v H => ∃ d, pre d ∧ Bx (r d) v H))) (h : ∀ d, pre d → DSs X (G.set i (some (r d))) W rest D) : DSs X G W rest D := ⟨fun pins s σ H E I ⟨c, S, eo⟩ => by
  obtain ⟨v, e, q⟩ := S.env.2 i _ hG
  obtain ⟨d, hd, bd⟩ := q.here
  have hs : σ.set i (some v) = σ := by
    apply List.ext_getElem?
    intro j
    by_cases ij : i = j
    · subst ij
      rw [List.getElem?_set_self (List.getElem?_eq_some_iff.mp e).1, e]
    · rw [List.getElem?_set_ne ij]
  have S2 := S.setE (P := r d) i bd
  rw [hs] at S2
  exact (h d hd).run pins s σ H E I ⟨c, S2, eo⟩⟩
theorem dss_to {i : Nat} (hG : G[i]? = some (some P)) (q : ∀ v H, Bx P v H → Bx P1 v H) (h : DSs X (G.set i (some P1)) W rest D) : DSs X G W rest D := ⟨fun pins s σ H E I ⟨c, S, eo⟩ => by
  obtain ⟨v, e, z⟩ := S.env.2 i _ hG
  have hs : σ.set i (some v) = σ := by
    apply List.ext_getElem?
    intro j
    by_cases ij : i = j
    · subst ij
      rw [List.getElem?_set_self (List.getElem?_eq_some_iff.mp e).1, e]
    · rw [List.getElem?_set_ne ij]
  have S2 := S.setE (P := P1) i (q v _ z)
  rw [hs] at S2
  exact h.run pins s σ H E I ⟨c, S2, eo⟩⟩
/-- forgetting -/
theorem dss_weak (hl : G'.length = G.length) (hG : ∀ (i : Nat) P, G'[i]? = some (some P) → G[i]? = some (some P)) (h : DSs X G' W rest D) : DSs X G W rest D := ⟨fun pins s σ H E I ⟨c, S, eo⟩ =>
  h.run pins s σ H E I ⟨c, S.envOf ⟨hl.trans S.env.1, fun i P q => S.env.2 i P (hG i P q)⟩, eo⟩⟩
/-- an owned thing is given free -/
theorem dss_drop (hs : ∀ q ∈ W', q ∈ W) (nd : (W.map (·.1)).Nodup → (W'.map (·.1)).Nodup) (h : DSs X G W' rest D) : DSs X G W rest D := ⟨fun pins s σ H E I ⟨c, S, eo⟩ => h.run pins s σ H E I ⟨c, S.drop hs (nd S.nd), eo⟩⟩

/-! ### small statements -/
theorem ds_expr (he : DX X G W W' e P) (h : D.nx G W') (hs : swapsWith e none pos.line X.env = pure false := by rfl) : DS X G W (.Expr e pos) D :=
  PS.to (ps_expr he hs) fun E s H ⟨c, S, eo⟩ => ⟨c, S, fun v H' S' e' b => eo.nx G W' s H' h S'⟩
theorem dss_expr (he : DX X G W W' e P) (h : DSs X G W' rest D) (hs : swapsWith e none pos.line X.env = pure false := by rfl) : DSs X G W (.Expr e pos :: rest) D := dss_cons (ds_expr he h hs)
theorem ds_ret (he : DX X G W W' e P) (h : D.rt P W') : DS X G W (.Return (some e) pos) D := PS.to (ps_ret he) fun E s H ⟨c, S, eo⟩ => ⟨c, S, fun v H' S' e' b => eo.rt P G W' s v H' h S' b⟩
theorem dss_ret (he : DX X G W W' e P) (h : D.rt P W') : DSs X G W (.Return (some e) pos :: rest) D := dss_cons (ds_ret he h)
theorem dss_retN (h : D.rt (is .non) W) : DSs X G W (.Return none pos :: rest) D := dss_cons (PS.to ps_retN fun E s H ⟨c, S, eo⟩ => eo.rt _ G W s .non H h S bx_is)
theorem dss_brk (h : D.bk G W) : DSs X G W (.Break pos :: rest) D := dss_cons (PS.to ps_break fun E s H ⟨c, S, eo⟩ => eo.bk G W s H h S)
theorem ds_set (i : Nat) (he : DX X G W W' e P) (h : D.nx (G.set i (some P)) W') (hN : X.N.Nodup) (hi : X.N[i]? = some x := by rfl) (hx : Loc X.env.scope x := by first | exact .inl rfl | exact .inr rfl)
    (hs : swapsWith e (some (.Name x pos')) pos.line X.env = pure false := by rfl) (hf : X.fn x = true ∨ X.env.scope.names.lookup x = some .local := by first | exact .inl rfl | exact .inr rfl) : DS X G W (.Assign [.Name x pos'] e pos) D :=
  PS.to (ps_set hN hi hx he hs hf) fun E s H ⟨c, S, eo⟩ => ⟨c, S, fun v H' S' e' b => eo.nx _ W' _ H' h (S'.setE i b)⟩
/-- x = e -/
theorem dss_set (i : Nat) (he : DX X G W W' e P) (h : DSs X (G.set i (some P)) W' rest D) (hN : X.N.Nodup) (hi : X.N[i]? = some x := by rfl) (hx : Loc X.env.scope x := by first | exact .inl rfl | exact .inr rfl)
    (hs : swapsWith e (some (.Name x pos')) pos.line X.env = pure false := by rfl) (hf : X.fn x = true ∨ X.env.scope.names.lookup x = some .local := by first | exact .inl rfl | exact .inr rfl) : DSs X G W (.Assign [.Name x pos'] e pos :: rest) D :=
  dss_cons (ds_set i he h hN hi hx hs hf)
/-- a, b = e, f with plain local names -/
theorem dss_par (i j : Nat) {y : Str} {px py pt : Pos} {kt k2 pt2} (ha : DA X G W [a, b] [P1, P2]) (h : DSs X ((G.set i (some P1)).set j (some P2)) W rest D) (hN : X.N.Nodup) (hij : i ≠ j := by decide) (hi : X.N[i]? = some x := by rfl) (hj : X.N[j]? = some y := by rfl)
    (hc : X.calm = true := by rfl) (hx : X.env.scope.names.lookup x = some .local := by rfl) (hy : X.env.scope.names.lookup y = some .local := by rfl)
    (hw : swappedStores [.Tuple [.Name x px, .Name y py] kt pt] (.Tuple [a, b] k2 pt2) X.env = pure (some [x, y]) := by rfl)
    (hs : swapsWithSole [.Tuple [.Name x px, .Name y py] kt pt] (.Tuple [a, b] k2 pt2) pos.line X.env = pure false := by rfl) :
    DSs X G W (.Assign [.Tuple [.Name x px, .Name y py] kt pt] (.Tuple [a, b] k2 pt2) pos :: rest) D :=
  dss_cons (PS.to (ps_par hc hN hi hj hij hx hy ha hw hs) fun E s H ⟨c, S, eo⟩ => ⟨c, S, fun vs H' S' e' b => by
    cases b with
    | cons b1 r =>
      cases r with
      | cons b2 r =>
        cases r
        exact ⟨_, _, rfl, eo.nx _ W _ H' h ((S'.setE i b1).setE j b2)⟩⟩)
/-- if c: .. else: .. -/
theorem dss_if {cond : Expr} {ta tb : List Stmt} {k : Bool} (hc : DT X G W cond k) (h1 : k = true → DSs X G W ta { D with nx := fun G' W' => DSs X G' W' rest D }) (h2 : k = false → DSs X G W tb { D with nx := fun G' W' => DSs X G' W' rest D }) :
    DSs X G W (.If cond ta tb pos :: rest) D := by
  refine dss_cons ?_
  cases k with
  | true => exact PS.to (ps_if hc (h1 rfl) (pss_never (sts := tb))) fun E s H ⟨c, S, eo⟩ => ⟨c, S, fun H' S' e' => iteT ⟨c, S', eo⟩⟩
  | false => exact PS.to (ps_if hc (pss_never (sts := ta)) (h2 rfl)) fun E s H ⟨c, S, eo⟩ => ⟨c, S, fun H' S' e' => iteF ⟨c, S', eo⟩⟩
/-- if c: .. without else -/
theorem dss_when {cond : Expr} {ta : List Stmt} {k : Bool} (hc : DT X G W cond k) (h1 : k = true → DSs X G W ta { D with nx := fun G' W' => DSs X G' W' rest D }) (h2 : k = false → DSs X G W rest D) : DSs X G W (.If cond ta [] pos :: rest) D :=
  dss_if hc h1 fun z => dss_nil (h2 z)
/-- if c: return .. -/
theorem dss_ifF {cond : Expr} {ta : List Stmt} (hc : DT X G W cond false) (h2 : DSs X G W rest D) : DSs X G W (.If cond ta [] pos :: rest) D := dss_if hc (fun z => nomatch z) fun _ => dss_nil h2
theorem dss_ifT {cond : Expr} {ta tb : List Stmt} (hc : DT X G W cond true) (h1 : DSs X G W ta { D with nx := fun G' W' => DSs X G' W' rest D }) : DSs X G W (.If cond ta tb pos :: rest) D := dss_if hc (fun _ => h1) fun z => nomatch z

/-! ### targets -/
/-- a value with P is stored: the slots js may change, G becomes up G -/
def tG (P : VP) (js : List Nat) (up : Gm → Gm) : TG := fun v s H Q => ∃ c G W, StOk c G W s H ∧ Bx P v (vis c W H) ∧ ∀ s' H', StOk c (up G) W s' H' → Same H H' → (∀ j, j ∉ js → s'[j]? = s[j]?) → s'.length = s.length → Q s' H'
abbrev DG (X : Cx) (tg : Expr) (P : VP) (js : List Nat) (up : Gm → Gm) : Prop := PG X tg (tG P js up)
def tGs (Ps : List VP) (js : List Nat) (up : Gm → Gm) : TGs := fun vs s H Q => ∃ c G W, StOk c G W s H ∧ Paired (fun P v => Bx P v (vis c W H)) Ps vs ∧ ∀ s' H', StOk c (up G) W s' H' → Same H H' → (∀ j, j ∉ js → s'[j]? = s[j]?) → s'.length = s.length → Q s' H'
abbrev DGs (X : Cx) (es : List Expr) (Ps : List VP) (js : List Nat) (up : Gm → Gm) : Prop := PGs X es (tGs Ps js up)
theorem PG.to {tg : Expr} {t t' : TG} (h : PG X tg t) (q : ∀ v s H Q, t' v s H Q → t v s H Q) : PG X tg t' := ⟨fun pins s σ H v u Q I r hw => h.run pins s σ H v u Q I r (q v σ H Q hw)⟩
theorem PGs.to {tg : List Expr} {t t' : TGs} (h : PGs X tg t) (q : ∀ v s H Q, t' v s H Q → t v s H Q) : PGs X tg t' := ⟨fun pins s σ H v u Q I r hw => h.run pins s σ H v u Q I r (q v σ H Q hw)⟩
theorem dg_name (i : Nat) (hN : X.N.Nodup) (hi : X.N[i]? = some x := by rfl) (hx : Loc X.env.scope x := by first | exact .inl rfl | exact .inr rfl) (hf : X.fn x = true ∨ X.env.scope.names.lookup x = some .local := by first | exact .inl rfl | exact .inr rfl) :
    DG X (.Name x pos) P [i] (fun G => G.set i (some P)) := PG.to (pg_name hN hi hx hf) fun v s H Q ⟨c, G, W, S, b, k⟩ =>
  k _ H (S.setE i b) (Same.refl H) (fun j hj => List.getElem?_set_ne (fun e => hj (by rw [e]; exact List.mem_singleton.mpr rfl))) (List.length_set ..)
theorem dgs_nil : DGs X [] [] [] id := PGs.to pgs_nil fun vs s H Q ⟨c, G, W, S, b, k⟩ => by
  cases b
  exact ⟨rfl, k s H S (Same.refl H) (fun _ _ => rfl) rfl⟩
theorem dgs_cons {js ks : List Nat} {up up' : Gm → Gm} (h1 : DG X e P js up) (h2 : DGs X es Ps ks up') (hs : (assignEach (e :: es) X.env).map (·.2) = assign e X.env :: (assignEach es X.env).map (·.2) := by rfl) : DGs X (e :: es) (P :: Ps) (js ++ ks) (fun G => up' (up G)) :=
  PGs.to (pgs_cons h1 h2 hs) fun vs s H Q ⟨c, G, W, S, b, k⟩ => by
    cases b with
    | cons b1 r => exact ⟨_, _, rfl, c, G, W, S, b1, fun s' H' S' e' f l => ⟨c, up G, W, S', bxs_mono (vis_same e') r, fun s2 H2 S2 e2 f2 l2 => k s2 H2 S2 (e'.trans e2) (fun j hj => (f2 j fun z => hj (List.mem_append_right _ z)).trans (f j fun z => hj (List.mem_append_left _ z))) (l2.trans l)⟩⟩
theorem dg_tup {js : List Nat} {up : Gm → Gm} {kk : Nat} (h : DGs X es Ps js up) (hc : X.calm = true := by rfl) (hn : (assignEach es X.env).length = Ps.length := by rfl) (hst : (assignEach es X.env).findIdx? (·.1) = none := by rfl) : DG X (.Tuple es kk pos) (rTu X.K Ps) js up :=
  PG.to (pg_tup hc h hn hst) fun v s H Q ⟨c, G, W, S, b, k⟩ => by
    obtain ⟨p, vs, ev, hq, r⟩ := b.here
    exact ⟨p, vs, ev, Same.t vis_sub hq, (Paired.length r).symm, c, G, W, S, r, k⟩
/-- target = e -/
theorem dss_asg {tg : Expr} {js : List Nat} {up : Gm → Gm} (he : DX X G W W' e P) (hg : DG X tg P js up) (h : DSs X (up G) W' rest D) (hs : swapsWithSole [tg] e pos.line X.env = pure false := by rfl) (hw : swappedStores [tg] e X.env = pure none := by rfl)
    (h1 : (assignEach [tg] X.env).map (·.2) = [assign tg X.env] := by rfl) : DSs X G W (.Assign [tg] e pos :: rest) D :=
  dss_cons (PS.to (ps_asg he hg hs hw h1) fun E s H ⟨c, S, eo⟩ => ⟨c, S, fun v H' S' e' b => ⟨c, G, W', S', b, fun s' H2 S2 _ _ _ => eo.nx _ W' s' H2 h S2⟩⟩)

/-! ### what is walked -/
structure IterOk (Hb : Hp) (J : It) (Ps : List VP) : Prop where
  go : ∀ (i : Nat) P H, Ps[i]? = some P → Same Hb H → J.go i H ∧ ∀ x H', J.yld i H x H' → Same H H' ∧ ∀ Hv, Same Hb Hv → (∀ a u, H a = none → H' a = some u → Hv a = some u) → P x Hv
  stop : ∀ H, Same Hb H → J.stop Ps.length H
def tI (G : Gm) (W : Ow) (Ps : List VP) : TI := fun s H R => ∃ c, StOk c G W s H ∧ ∀ J H1, StOk c G W s H1 → Same (vis c W H) (vis c W H1) → IterOk (vis c W H1) J Ps → R J H1
abbrev DI (X : Cx) (G : Gm) (W : Ow) (tg iter : Expr) (Ps : List VP) : Prop := PI X tg iter (tI G W Ps)
theorem PI.to {tg : Expr} {t t' : TI} (h : PI X tg e t) (q : ∀ s H R, t' s H R → t s H R) : PI X tg e t' := ⟨fun pins s σ H R I hw => h.run pins s σ H R I (q σ H R hw)⟩
theorem di_list {tg : Expr} (h : DE X G W e (rLi X.K Ps)) : DI X G W tg e Ps := PI.to (pi_list h) fun s H R ⟨c, S, k⟩ => ⟨c, S, fun v H' S' e' b => by
  obtain ⟨a, vs, ev, hq, r⟩ := b.here
  refine ⟨a, ev, ⟨vs, Same.lsq vis_sub hq⟩, k _ _ S' e' ⟨fun i P H2 hP e2 => ?_, fun H2 e2 => ⟨vs, Same.lsq e2 hq, by rw [Paired.length r]; exact Nat.le_refl _⟩⟩⟩
  obtain ⟨u, hu, bu⟩ := paired_at r hP
  refine ⟨⟨vs, u, Same.lsq e2 hq, hu⟩, fun x H3 ⟨eH, y⟩ => ?_⟩
  subst eH
  have hx := y vs (Same.lsq e2 hq)
  rw [hu] at hx
  cases hx
  exact ⟨Same.refl _, fun Hv e3 _ => bu Hv e3⟩⟩
theorem di_tup {tg : Expr} (h : DE X G W e (rTu X.K Ps)) : DI X G W tg e Ps := PI.to (pi_tup h) fun s H R ⟨c, S, k⟩ => ⟨c, S, fun v H' S' e' b => by
  obtain ⟨a, vs, ev, hq, r⟩ := b.here
  refine ⟨a, ev, ⟨vs, Same.t vis_sub hq⟩, k _ _ S' e' ⟨fun i P H2 hP e2 => ?_, fun H2 e2 => ⟨vs, Same.t e2 hq, by rw [Paired.length r]; exact Nat.le_refl _⟩⟩⟩
  obtain ⟨u, hu, bu⟩ := paired_at r hP
  refine ⟨⟨vs, u, Same.t e2 hq, hu⟩, fun x H3 ⟨eH, y⟩ => ?_⟩
  subst eH
  have hx := y vs (Same.t e2 hq)
  rw [hu] at hx
  cases hx
  exact ⟨Same.refl _, fun Hv e3 _ => bu Hv e3⟩⟩
/-- the ints from lo on, so many -/
def rgV (lo : Int) (n : Nat) : List VP := (List.range n).map fun k => is (.int (lo + (k : Nat)))
theorem iter_rng {Hb : Hp} {lo : Int} {n : Nat} : IterOk Hb (Itr lo n) (rgV lo n) := ⟨fun i P H hP e => by
  unfold rgV at hP
  rw [List.getElem?_map] at hP
  have hi : i < n := by
    by_cases z : i < n
    · exact z
    · rw [List.getElem?_eq_none (by rw [List.length_range]; omega)] at hP
      cases hP
  rw [List.getElem?_range hi] at hP
  cases hP
  exact ⟨hi, fun x H' ⟨e1, e2⟩ => ⟨by rw [e1]; exact Same.refl _, fun Hv _ _ => e2⟩⟩, fun H e => by
  show n ≤ (rgV lo n).length
  unfold rgV
  rw [List.length_map, List.length_range]
  exact Nat.le_refl _⟩
theorem di_range1 {tg : Expr} {n : Int} (hm : X.mg "range" = none) (ha : DA X G W [a] [is (.int n)]) (hn : -1000000 ≤ n ∧ n < 1000000) (hg : Gl X "range" := by rfl) (hs : starEach [a] X.env = [(false, eval a X.env)] := by rfl) : DI X G W tg (.Call (.Name "range" p) [a] [] pos) (rgV 0 n.toNat) :=
  PI.to (pi_range1 hg hm ha hs) fun s H R ⟨c, S, k⟩ => ⟨c, S, fun vs H' S' e' b => by
    cases b with
    | cons b1 r =>
      cases r
      rw [b1.eq]
      exact ⟨n, rfl, by omega, by omega, k _ H' S' e' iter_rng⟩⟩
theorem di_range2 {tg : Expr} {m n : Int} (hm : X.mg "range" = none) (ha : DA X G W [a, b] [is (.int m), is (.int n)]) (hn : -1000000 ≤ m ∧ m < 1000000 ∧ -1000000 ≤ n ∧ n < 1000000) (hg : Gl X "range" := by rfl)
    (hs : starEach [a, b] X.env = [(false, eval a X.env), (false, eval b X.env)] := by rfl) (hs2 : starEach [b] X.env = [(false, eval b X.env)] := by rfl) : DI X G W tg (.Call (.Name "range" p) [a, b] [] pos) (rgV m (n - m).toNat) :=
  PI.to (pi_range2 hg hm ha hs hs2) fun s H R ⟨c, S, k⟩ => ⟨c, S, fun vs H' S' e' b => by
    cases b with
    | cons b1 r =>
      cases r with
      | cons b2 r =>
        cases r
        rw [b1.eq, b2.eq]
        exact ⟨m, n, rfl, ⟨by omega, by omega, by omega, by omega⟩, k _ H' S' e' iter_rng⟩⟩

/-! ### loops -/
theorem StOk.loop {c : Ct} {s : St} {H : Hp} (S : StOk c G W s H) : StOk ⟨H, inO W, c.hd⟩ G W s H := ⟨S.env, fun a C h => ⟨.inl (inO.mem h), (S.own a C h).2⟩, S.nd, fun _ _ _ h => h, S.hdA, S.dj⟩
theorem StOk.unloop {c : Ct} {s s' : St} {H H' : Hp} {G' : Gm} {W' : Ow} (S : StOk c G W s H) (S' : StOk ⟨H, inO W, c.hd⟩ G' W' s' H') : StOk c G' W' s' H' ∧ Same (vis c W H) (vis c W' H') := by
  have key : ∀ a, inO W a → c.mu a ∨ c.h0 a = none := fun a z => let ⟨C, h⟩ := z.ex; (S.own a C h).1
  refine ⟨⟨S'.env, fun a C h => ⟨?_, (S'.own a C h).2⟩, S'.nd, fun a u n h => S'.fr a u (fun z => ?_) (S.fr a u n h), S'.hdA, S'.dj⟩, hid_le fun a u n h => ⟨fun z => ?_, S'.fr a u (fun z => n (.inr z)) h⟩⟩
  · rcases (S'.own a C h).1 with z | z
    · exact key a z
    · by_cases m : c.mu a
      · exact .inl m
      · refine .inr ?_
        cases q : c.h0 a with
        | none => rfl
        | some u =>
          have t := S.fr a u m q
          have z' : H a = none := z
          rw [z'] at t
          cases t
  · rcases key a z with m | m
    · exact n m
    · rw [m] at h; cases h
  · rcases z with z | z
    · exact n (.inl z)
    · obtain ⟨C, hC⟩ := z.ex
      rcases (S'.own a C hC).1 with m | m
      · exact n (.inr m)
      · rw [show H a = none from m] at h; cases h
/-- what is yielded is there for the turn -/
theorem iter_bx {c : Ct} {s s' : St} {H H2 H3 : Hp} {G' : Gm} {W' : Ow} {x : V} (S : StOk c G W s H) (S2 : StOk ⟨H, inO W, c.hd⟩ G' W' s' H2) (e : Same H2 H3) (y : ∀ Hv, Same (vis c W H) Hv → (∀ a u, H2 a = none → H3 a = some u → Hv a = some u) → P x Hv) : Bx P x (vis c W' H3) := by
  have sm := (S.unloop S2).2.trans (vis_same e)
  intro Hv ev
  refine y Hv (sm.trans ev) fun a u n h => ev a u (hid_some.mpr ⟨fun z => ?_, h⟩)
  exact z.elim (S2.fresh n).1 (S2.fresh n).2
/-- for target in what is walked: body -/
theorem dss_for {tg iter : Expr} {js : List Nat} {up : VP → Gm → Gm} (Iv : Nat → Gm → Ow → Prop) (hi : DI X G W tg iter Ps) (hg : ∀ P ∈ Ps, DG X tg P js (up P)) (h0 : Iv 0 G W)
    (hb : ∀ (i : Nat) P G' W', Ps[i]? = some P → Iv i G' W' → DSs X (up P G') W' body { nx := Iv (i + 1), ct := Iv (i + 1), bk := fun G2 W2 => DSs X G2 W2 rest D, rt := D.rt })
    (hd : ∀ G' W', Iv Ps.length G' W' → DSs X G' W' rest D) (hp : PassesOwn (model X.prog X.w) X.A X.env X.xe := by exact PassesOwn.never) (hc : X.calm = true := by rfl) (hs : ∀ x, foldedSetIterable iter X.env x = pure x := by intro _; rfl) :
    DSs X G W (.For tg iter body [] pos :: rest) D := by
  refine dss_cons ?_
  have pg : PG X tg (fun v s H Q => ∃ P ∈ Ps, tG P js (up P) v s H Q) := ⟨fun pins s σ H v u Q I r ⟨P, hP, q⟩ => (hg P hP).run pins s σ H v u Q I r q⟩
  have pb : PSs X body (fun E s H => ∃ c i P G' W', Ps[i]? = some P ∧ Iv i G' W' ∧ StOk c (up P G') W' s H ∧ EndOk c { nx := Iv (i + 1), ct := Iv (i + 1), bk := fun G2 W2 => DSs X G2 W2 rest D, rt := D.rt } E) :=
    ⟨fun pins s σ H E I ⟨c, i, P, G', W', hP, hI, S, eo⟩ => (hb i P G' W' hP hI).run pins s σ H E I ⟨c, S, eo⟩⟩
  refine PS.to (ps_for hp hc hi pg pb hs) fun E s H ⟨c, S, eo⟩ => ⟨c, S, fun J H1 S1 e1 it => ?_⟩
  refine ⟨fun i m s' H' => m = Ps.length - i ∧ i ≤ Ps.length ∧ ∃ G' W', Iv i G' W' ∧ StOk ⟨H1, inO W, c.hd⟩ G' W' s' H', ⟨Ps.length, by simp, Nat.zero_le _, G, W, h0, S1.loop⟩, ?_⟩
  rintro i m s2 H2 ⟨rfl, hi2, G2, W2, I2, S2⟩
  have sm : Same (vis c W H1) H2 := (S1.unloop S2).2.trans vis_sub
  by_cases hlt : i < Ps.length
  · obtain ⟨hgo, hy⟩ := it.go i Ps[i] H2 (by simp [hlt]) sm
    refine .inr ⟨hgo, fun s' H' => ∃ G' W', Iv (i + 1) G' W' ∧ StOk ⟨H1, inO W, c.hd⟩ G' W' s' H', fun s' H' ⟨G', W', I', S'⟩ => ⟨Ps.length - (i + 1), by omega, rfl, hlt, G', W', I', S'⟩, fun x H3 y => ?_⟩
    obtain ⟨e3, k3⟩ := hy x H3 y
    refine ⟨Ps[i], List.getElem_mem hlt, ⟨H1, inO W, c.hd⟩, G2, W2, S2.same e3, (show Bx Ps[i] x (vis c W2 H3) from iter_bx S1 S2 e3 k3), fun s4 H4 S4 _ _ _ => ?_⟩
    refine ⟨⟨H1, inO W, c.hd⟩, i, Ps[i], G2, W2, by simp [hlt], I2, S4, ⟨fun G' W' s' H' hn S' => ⟨G', W', hn, S'⟩, fun P' G' W' s' v H' hr S' b => eo.rt P' G' W' s' v H' hr (S1.unloop S').1 b, fun G' W' s' H' hk S' => eo.nx G' W' s' H' hk (S1.unloop S').1, fun G' W' s' H' hn S' => ⟨G', W', hn, S'⟩⟩⟩
  · have ei : i = Ps.length := by omega
    subst ei
    exact .inl ⟨it.stop H2 sm, eo.nx G2 W2 s2 H2 (hd G2 W2 I2) (S1.unloop S2).1⟩
/-- while c: body -/
theorem dss_while {cond : Expr} (Iv : Nat → Gm → Ow → Prop) {m0 : Nat} (h0 : Iv m0 G W)
    (hb : ∀ m G' W', Iv m G' W' → ∃ k, DT X G' W' cond k ∧ (k = true → DSs X G' W' body { nx := fun G2 W2 => ∃ m', m' < m ∧ Iv m' G2 W2, ct := fun G2 W2 => ∃ m', m' < m ∧ Iv m' G2 W2, bk := fun G2 W2 => DSs X G2 W2 rest D, rt := D.rt }) ∧ (k = false → DSs X G' W' rest D))
    (hp : PassesOwn (model X.prog X.w) X.A X.env X.xe := by exact PassesOwn.never) : DSs X G W (.While cond body [] pos :: rest) D := by
  refine dss_cons ?_
  have pc : PT X cond (fun s H Q => ∃ c m G' W', Iv m G' W' ∧ StOk c G' W' s H ∧ ∀ k H', DT X G' W' cond k → StOk c G' W' s H' → (k = true → DSs X G' W' body { nx := fun G2 W2 => ∃ m', m' < m ∧ Iv m' G2 W2, ct := fun G2 W2 => ∃ m', m' < m ∧ Iv m' G2 W2, bk := fun G2 W2 => DSs X G2 W2 rest D, rt := D.rt }) →
      (k = false → DSs X G' W' rest D) → Q k H') := ⟨fun pins s σ H Q I ⟨c, m, G', W', hI, S, q⟩ => by
    obtain ⟨k, h1, h2, h3⟩ := hb m G' W' hI
    exact h1.run pins s σ H Q I ⟨c, S, fun H' S' _ => q k H' h1 S' h2 h3⟩⟩
  have pb : PSs X body (fun E s H => ∃ c m G' W', Iv m G' W' ∧ DSs X G' W' body { nx := fun G2 W2 => ∃ m', m' < m ∧ Iv m' G2 W2, ct := fun G2 W2 => ∃ m', m' < m ∧ Iv m' G2 W2, bk := fun G2 W2 => DSs X G2 W2 rest D, rt := D.rt } ∧ StOk c G' W' s H ∧
      EndOk c { nx := fun G2 W2 => ∃ m', m' < m ∧ Iv m' G2 W2, ct := fun G2 W2 => ∃ m', m' < m ∧ Iv m' G2 W2, bk := fun G2 W2 => DSs X G2 W2 rest D, rt := D.rt } E) :=
    ⟨fun pins s σ H E I ⟨c, m, G', W', hI, hd, S, eo⟩ => hd.run pins s σ H E I ⟨c, S, eo⟩⟩
  refine PS.to (ps_while hp pc pb) fun E s H ⟨c, S, eo⟩ => ⟨fun m s' H' => ∃ G' W', Iv m G' W' ∧ StOk c G' W' s' H', ⟨m0, G, W, h0, S⟩, ?_⟩
  rintro m s2 H2 ⟨G2, W2, I2, S2⟩
  refine ⟨c, m, G2, W2, I2, S2, fun k H3 hk S3 h1 h2 => ?_⟩
  cases k with
  | true =>
    refine iteT ⟨fun s' H' => ∃ m', m' < m ∧ ∃ G' W', Iv m' G' W' ∧ StOk c G' W' s' H', fun s' H' z => z, c, m, G2, W2, I2, h1 rfl, S3, ⟨?_, eo.rt, fun G' W' s' H' hk S' => eo.nx G' W' s' H' hk S', ?_⟩⟩
    · rintro G' W' s' H' ⟨m', l, I'⟩ S'
      exact ⟨m', l, G', W', I', S'⟩
    · rintro G' W' s' H' ⟨m', l, I'⟩ S'
      exact ⟨m', l, G', W', I', S'⟩
  | false => exact iteF (eo.nx G2 W2 s2 H3 (h2 rfl) S3)
end
end
end SQ
end
section
set_option maxHeartbeats 4000000
namespace SQ
open PySem PySem.Spec PyProof.Rows L2
noncomputable section

/-! ### a def's body -/
def retD (P : VP) (W' : Ow) : DEn where
  rt := fun P' W2 => (∀ v H, Bx P' v H → Bx P v H) ∧ (∀ q ∈ W', q ∈ W2) ∧ (W'.map (·.1)).Nodup
  nx := fun _ W2 => (∀ H, Bx P .non H) ∧ (∀ q ∈ W', q ∈ W2) ∧ (W'.map (·.1)).Nodup
theorem rt_same {P : VP} {W : Ow} (nd : (W.map (·.1)).Nodup := by first | exact List.nodup_nil | simp) : (retD P W).rt P W := ⟨fun _ _ h => h, fun _ h => h, nd⟩
theorem rt_to {P P' : VP} {W : Ow} (h : ∀ v H, Bx P' v H → Bx P v H) (nd : (W.map (·.1)).Nodup := by first | exact List.nodup_nil | simp) : (retD P W).rt P' W := ⟨h, fun _ h => h, nd⟩
/-- what one owns by oneself is let go at the end -/
theorem rt_free {P P' : VP} {W2 : Ow} (h : ∀ v H, Bx P' v H → Bx P v H) : (retD P []).rt P' W2 := ⟨h, (fun _ h => nomatch h), List.nodup_nil⟩
theorem nx_none {W : Ow} {G : Gm} (nd : (W.map (·.1)).Nodup := by first | exact List.nodup_nil | simp) : (retD (is .non) W).nx G W := ⟨fun _ => bx_is, fun _ h => h, nd⟩
abbrev Xb (P : Program) (w : World) (K : PySem.W.Frag) (mg : Str → Option Value) (base : Heap) (N : List Str) (qual : Str) (scope : Scope) (f : Addr) (cdv : Value) (A : Around) (outer : List Env) (s : Shared) (H : Hp) (E : XK) : Cx :=
  (cxOf CX0 P w K mg base N qual scope f cdv A outer s H E).nox
/-- the slots at the entry -/
def entry (N : List Str) (Ps : List VP) : Gm := Ps.map some ++ List.replicate (N.length - Ps.length) none
theorem entry_ok {N : List Str} {Ps : List VP} {vs : List V} {H : Hp} (h : EnvR (Ps.map some) (vs.map some) H) : EnvR (entry N Ps) (L2.start N vs) H := by
  have hl : Ps.length = vs.length := by simpa using h.1
  unfold entry L2.start
  refine ⟨by simp [hl], fun i P e => ?_⟩
  by_cases hi : i < Ps.length
  · rw [List.getElem?_append_left (by simpa using hi)] at e
    obtain ⟨v, h1, h2⟩ := h.2 i P e
    exact ⟨v, by rw [List.getElem?_append_left (by simpa using (hl ▸ hi))]; exact h1, h2⟩
  · rw [List.getElem?_append_right (by simpa using hi), List.getElem?_replicate] at e
    split at e <;> cases e
section
variable {P : Program} {w : World} {K : PySem.W.Frag} {mg : Str → Option Value} {base : Heap} {x qual : Str} {params : Arguments} {body : List Stmt} {scope : Scope} {dvs : List V} {kws : List (Str × V)} {f : Addr} {fd : FuncData} {N ps : List Str} {k : Nat} {Ps : List VP} {W W' : Ow} {R : VP}
theorem fnok_of (F : FunD K x qual params body scope dvs kws f fd) (S : FnScope N ps scope) (hl : Ps.length = ps.length)
    (hbody : ∀ (cdv : Value) (A : Around) (outer : List Env) (s : Shared) (H : Hp) (E : XK), Room k (A.deeper (envOfC qual scope s.heap.objs.size f cdv)) →
      DSs (Xb P w K mg base N qual scope f cdv A outer s H E) (entry N Ps) W body (retD R W')) : FnOk P w K mg base CX0 (k + 1) f fd ps (SpF Ps W W' R) := by
  refine F.ok S (fun vs H Q E h => by rw [SpF.len h, hl]) fun cdv A outer s H vs Q E hr h => ?_
  obtain ⟨c, St0, kq⟩ := h
  refine ⟨_, PSs.nox (hbody cdv A outer s H E hr), c, St0.envOf (entry_ok St0.env), ?_, ?_, ?_, ?_⟩
  · rintro G2 W2 s2 H2 ⟨h1, h2, h3⟩ S2
    exact kq .non H2 G2 s2 (S2.drop h2 h3) (h1 _)
  · rintro P' G2 W2 s2 v H2 ⟨h1, h2, h3⟩ S2 b
    refine kq v H2 G2 s2 (S2.drop h2 h3) ((h1 v _ b).mono (vis_drop fun b q => ?_))
    obtain ⟨C, hC⟩ := q.ex
    exact inO.mem (h2 _ hC)
  · intro G2 W2 s2 H2 h
    exact h.elim
  · intro G2 W2 s2 H2 h
    exact h.elim
/-- a def as the top leaves it -/
def DefF (K : PySem.W.Frag) (mg : Str → Option Value) (x qual : Str) (st : Stmt) : Prop := ∃ f fd, mg x = some (.ref f) ∧ FunD K qual qual (defArgs st) (defBody st) (defScope st) [] [] f fd
theorem fng_of {st : Stmt} (T : DefF K mg x qual st) (S : FnScope N ps (defScope st)) (hl : Ps.length = ps.length)
    (hb : ∀ (kV doc pm : Value) (an : Option Addr) (cdv ct : Value) (us : List Value), us.length = ps.length → bindArgs (PySem.W.fnOf qual qual (defArgs st) (defBody st) (defScope st) .none kV doc pm an cdv ct) ⟨us, []⟩ = pure (ps.zip us))
    (hbody : ∀ (f : Addr) (cdv : Value) (A : Around) (outer : List Env) (s : Shared) (H : Hp) (E : XK), Room k (A.deeper (envOfC qual (defScope st) s.heap.objs.size f cdv)) →
      DSs (Xb P w K mg base N qual (defScope st) f cdv A outer s H E) (entry N Ps) W (defBody st) (retD R W')) : FnG P w K mg base x (k + 1) Ps W W' R := by
  obtain ⟨f, fd, hm, F⟩ := T
  refine ⟨f, hm, F.kp, ?_⟩
  have z := (fnok_of (P := P) (w := w) (mg := mg) (base := base) F S hl (hbody f)).raw (F.bindsN fun kV doc pm an cdv ct us hu => hb kV doc pm an cdv ct us hu) .nil
  exact z.imp fun vs H Q E h => by rw [List.append_nil]; exact h
end

/-! ### list comprehensions -/
def wipeG (G : Gm) : List Nat → Gm
  | [] => G
  | v :: vs => (wipeG G vs).set v none
theorem wipe_env {G : Gm} {s : St} {H : Hp} (h : EnvR G s H) : ∀ vs : List Nat, EnvR (wipeG G vs) (wipe s vs) H
  | [] => h
  | v :: vs => by
    have ih := wipe_env h vs
    refine ⟨by show ((wipeG G vs).set v none).length = ((wipe s vs).set v none).length; rw [List.length_set, List.length_set, ih.1], fun i P e => ?_⟩
    have e : ((wipeG G vs).set v none)[i]? = some (some P) := e
    show ∃ u, ((wipe s vs).set v none)[i]? = some (some u) ∧ Bx P u H
    by_cases ij : v = i
    · subst ij
      by_cases hl : v < (wipeG G vs).length
      · rw [List.getElem?_set_self hl] at e
        cases e
      · rw [List.getElem?_eq_none (by rw [List.length_set]; omega)] at e
        cases e
    · rw [List.getElem?_set_ne ij] at e
      obtain ⟨u, a, b⟩ := ih.2 i P e
      exact ⟨u, by rw [List.getElem?_set_ne ij]; exact a, b⟩
theorem wipe_get {s : St} : ∀ {vs : List Nat} {j : Nat}, j ∈ vs → (wipe s vs)[j]? = if j < s.length then some none else none
  | v :: vs, j, h => by
    show ((wipe s vs).set v none)[j]? = _
    by_cases e : v = j
    · subst e
      by_cases hl : v < s.length
      · rw [List.getElem?_set_self (by rw [wipe_length]; exact hl), if_pos hl]
      · rw [List.getElem?_eq_none (by rw [List.length_set, wipe_length]; omega), if_neg hl]
    · rw [List.getElem?_set_ne e]
      exact wipe_get ((List.mem_cons.mp h).resolve_left fun z => e z.symm)
theorem wipe_outE {s : St} : ∀ {vs : List Nat} {j : Nat}, j ∉ vs → (wipe s vs)[j]? = s[j]?
  | [], _, _ => rfl
  | v :: vs, j, h => by
    show ((wipe s vs).set v none)[j]? = _
    rw [List.getElem?_set_ne fun e => h (by subst e; exact List.mem_cons_self)]
    exact wipe_outE fun z => h (List.mem_cons_of_mem _ z)
theorem wipe_eqE {s s' : St} {vs : List Nat} (hl : s'.length = s.length) (h : ∀ j, j ∉ vs → s'[j]? = s[j]?) : wipe s' vs = wipe s vs := by
  apply List.ext_getElem?
  intro j
  by_cases e : j ∈ vs
  · rw [wipe_get e, wipe_get e, hl]
  · rw [wipe_outE e, wipe_outE e, h j e]
theorem wipe_twice {s : St} {vs : List Nat} : wipe (wipe s vs) vs = wipe s vs := wipe_eqE (wipe_length _ _) fun j h => wipe_outE h
abbrev DTs (X : Cx) (G : Gm) (W : Ow) (ifs : List Expr) (b : Bool) : Prop := PTs X ifs (tT G W b)
section
variable {X : Cx} {G : Gm} {W : Ow} {e : Expr} {b : Bool} {pos : Pos}
theorem PTs.to {ifs : List Expr} {t t' : TT} (h : PTs X ifs t) (q : ∀ s H Q, t' s H Q → t s H Q) : PTs X ifs t' := ⟨fun pins s σ H Q I hw => h.run pins s σ H Q I (q σ H Q hw)⟩
theorem dts_nil : DTs X G W [] true := PTs.to pts_nil fun s H Q ⟨c, S, k⟩ => k H S (Same.refl _)
theorem dts_one (h : DT X G W e b) : DTs X G W [e] b := pts_one h
/-- what stands in a list that is being made -/
def oLi (Ps : List VP) : OC := fun u H => ∃ vs, u = .lst vs ∧ Paired (fun P v => Bx P v H) Ps vs
theorem lc_turns {α : Type} {xs : List α} {f : α → Bool} {r : α → VP} {i : Nat} {x : α} (hx : xs[i]? = some x) : ((xs.take (i + 1)).filter f).map r = ((xs.take i).filter f).map r ++ (if f x = true then [r x] else []) := by
  have hi := (List.getElem?_eq_some_iff.mp hx).1
  have hx' := (List.getElem?_eq_some_iff.mp hx).2
  rw [List.take_succ, hx, Option.toList_some, List.filter_append, List.map_append]
  congr 1
  by_cases h : f x = true
  · rw [if_pos h, List.filter_cons, if_pos h]
    rfl
  · rw [if_neg h, List.filter_cons, if_neg h]
    rfl
theorem lc_read {α : Type} {xs : List α} {p : α → VP} {f : α → Bool} {r : α → VP} {js vs : List Nat} {up : α → Gm → Gm} (hjs : ∀ j ∈ js, j ∈ vs) (hz : xs.length ≤ 100000) {s : St} {H : Hp} {Q : VK} {K : PySem.W.Frag}
    (h : tD G W W (rLi K ((xs.filter f).map r)) s H Q) :
    tLc (tI G W (xs.map p)) (fun v s H Q => ∃ x ∈ xs, tG (p x) js (up x) v s H Q)
      (fun s H Q => ∃ x ∈ xs, tT (up x (wipeG G vs)) W (f x) s H Q) (fun s H Q => ∃ x ∈ xs, f x = true ∧ tD (up x (wipeG G vs)) W W (r x) s H Q) vs s H Q := by
  obtain ⟨c, S, k⟩ := h
  refine ⟨c, S, fun J H1 S1 e1 it => ?_⟩
  intro Dl hD
  have fr := S1.fresh hD
  refine ⟨fun i m H' => m = xs.length - i ∧ i ≤ xs.length ∧ StOk ⟨H1, inO W, c.hd⟩ G ((Dl, oLi (((xs.take i).filter f).map r)) :: W) s H', ⟨xs.length, by simp, Nat.zero_le _, ?_⟩, ?_⟩
  · exact (S1.loop).newO hD fun H' _ => ⟨[], rfl, by simp; exact .nil⟩
  rintro i m H2 ⟨rfl, hi, S2⟩
  have sm : Same (vis c W H1) H2 := (S1.unloop S2).2.trans vis_sub
  by_cases hlt : i < xs.length
  · have hx : xs[i]? = some xs[i] := by simp [hlt]
    obtain ⟨hgo, hy⟩ := it.go i (p xs[i]) H2 (by simp [hlt]) sm
    refine .inr ⟨hgo, fun H' => StOk ⟨H1, inO W, c.hd⟩ G ((Dl, oLi (((xs.take (i + 1)).filter f).map r)) :: W) s H', fun H' S' => ⟨xs.length - (i + 1), by omega, rfl, hlt, S'⟩, fun x H3 y => ?_⟩
    obtain ⟨e3, k3⟩ := hy x H3 y
    have S3 := S2.same e3
    have bx3 : Bx (p xs[i]) x (vis c ((Dl, oLi (((xs.take i).filter f).map r)) :: W) H3) := iter_bx S1 S2 e3 k3
    have hs : ∀ q ∈ W, q ∈ (Dl, oLi (((xs.take i).filter f).map r)) :: W := fun q h => List.mem_cons_of_mem _ h
    have ndW : (W.map (·.1)).Nodup := (List.nodup_cons.mp S3.nd).2
    have nDW : ¬ inO W Dl := (List.nodup_cons.mp S3.nd).1
    have Sb := S3.sub (W' := W) hs ndW (wipe_env S3.env vs)
    have ev := vis_subc (c := ⟨H1, inO W, c.hd⟩) (W := (Dl, oLi (((xs.take i).filter f).map r)) :: W) (W' := W) (H := H3) (H' := H3) (fun b q => List.mem_cons_of_mem _ q)
    refine ⟨xs[i], List.getElem_mem hlt, _, _, W, Sb, (by rw [ev]; exact bx3), fun s4 H4 S4 e4 f4 l4 => ?_⟩
    refine ⟨(wipe_eqE l4 fun j hj => f4 j fun z => hj (hjs j z)).trans wipe_twice, xs[i], List.getElem_mem hlt, _, S4, fun H5 S5 e5 => ?_⟩
    -- the new list stays
    have stays : ∀ {G6 : Gm} {s6 : St} {H6 : Hp}, StOk (Ct.sub ⟨H1, inO W, c.hd⟩ ((Dl, oLi (((xs.take i).filter f).map r)) :: W) W H3) G6 W s6 H6 →
        StOk ⟨H1, inO W, c.hd⟩ G ((Dl, oLi (((xs.take i).filter f).map r)) :: W) s H6 ∧ vis (Ct.sub ⟨H1, inO W, c.hd⟩ ((Dl, oLi (((xs.take i).filter f).map r)) :: W) W H3) W H6 = vis ⟨H1, inO W, c.hd⟩ ((Dl, oLi (((xs.take i).filter f).map r)) :: W) H6 := fun S6 => by
      obtain ⟨a1, _, a3⟩ := S3.back (W1 := (Dl, oLi (((xs.take i).filter f).map r)) :: W) hs S6 rfl rfl fun a C h => by
        rcases List.mem_cons.mp h with q | q
        · cases q
          exact .inr ⟨List.mem_cons_self, nDW⟩
        · exact .inl q
      exact ⟨a1, a3⟩
    by_cases hf : f xs[i] = true
    · dsimp only
      rw [if_pos hf]
      refine ⟨xs[i], List.getElem_mem hlt, hf, _, S5, fun y H6 S6 e6 b6 => ?_⟩
      obtain ⟨a1, a3⟩ := stays S6
      rw [a3] at b6
      obtain ⟨u, hu, hc⟩ := a1.owned List.mem_cons_self
      obtain ⟨acc, eu, ra⟩ := hc _ (Same.refl _)
      subst eu
      refine ⟨acc, hu, ?_, ?_⟩
      · have l1 := Paired.length ra
        rw [List.length_map] at l1
        have l2 := List.length_filter_le f (xs.take i)
        rw [List.length_take] at l2
        have l3 : sizeLine = 16777216 := sizeLine_eq
        omega
      · refine a1.change (W' := (Dl, oLi (((xs.take (i + 1)).filter f).map r)) :: W) rfl List.mem_cons_self fun b C hb => ?_
        rcases List.mem_cons.mp hb with q | q
        · cases q
          refine .inr ⟨rfl, fun H' e' => ⟨_, rfl, ?_⟩⟩
          rw [lc_turns hx, if_pos hf]
          exact paired_app (bxs_mono e' ra) (.cons (b6.mono e') .nil)
        · refine .inl ⟨?_, List.mem_cons_of_mem _ q⟩
          rintro rfl
          exact nDW (inO.mem q)
    · dsimp only
      rw [if_neg hf]
      obtain ⟨a1, _⟩ := stays S5
      have et : ((xs.take (i + 1)).filter f).map r = ((xs.take i).filter f).map r := by rw [lc_turns hx, if_neg hf, List.append_nil]
      rw [et]
      exact a1
  · have ei : i = xs.length := by omega
    subst ei
    refine .inl ⟨?_, ?_⟩
    · have z := it.stop H2 sm
      rw [List.length_map] at z
      exact z
    · obtain ⟨U, sm2⟩ := S1.unloop S2
      obtain ⟨u, hu, hc⟩ := U.owned List.mem_cons_self
      obtain ⟨acc, eu, ra⟩ := hc _ (Same.refl _)
      subst eu
      rw [List.take_length] at ra
      have Sd := U.drop (W' := W) (fun q h => List.mem_cons_of_mem _ h) (List.nodup_cons.mp U.nd).2
      have sv : Same (vis c ((Dl, oLi (((xs.take xs.length).filter f).map r)) :: W) H2) (vis c W H2) := vis_drop fun b q => List.mem_cons_of_mem _ q
      refine k (.ref Dl) H2 Sd (e1.trans (sm2.trans sv)) (bx_li (hid_some.mpr ⟨fun z => ?_, hu⟩) (bxs_mono sv ra))
      rcases z with z | z
      · exact fr.1 z
      · exact (List.nodup_cons.mp U.nd).1 z
variable {elt tg iter : Expr} {ifs : List Expr} {scope : Scope} {own : List (Str × Nat)} {js : List Nat}
structure LcOk (X : Cx) (G : Gm) (W : Ow) {α : Type} (xs : List α) (p : α → VP) (f : α → Bool) (r : α → VP) (elt tg : Expr) (ifs : List Expr) (scope : Scope) (own : List (Str × Nat)) (js : List Nat) (up : α → Gm → Gm) : Prop where
  ok : BlkOk X.N X.env.scope scope own
  jsOk : ∀ j ∈ js, j ∈ own.map (·.2)
  sz : xs.length ≤ 100000
  tg : ∀ (s : Shared) (H : Hp) (C : Addr) (cl : List (Str × Addr)) (fp : List Addr), ∀ x ∈ xs, DG (X.blk s H scope (compEnvC scope cl C X.env) fp) tg (p x) js (up x)
  ifs : ∀ (s : Shared) (H : Hp) (C : Addr) (cl : List (Str × Addr)) (fp : List Addr), ∀ x ∈ xs, DTs (X.blk s H scope (compEnvC scope cl C X.env) fp) (up x (wipeG G (own.map (·.2)))) W ifs (f x)
  elt : ∀ (s : Shared) (H : Hp) (C : Addr) (cl : List (Str × Addr)) (fp : List Addr), ∀ x ∈ xs, f x = true → DE (X.blk s H scope (compEnvC scope cl C X.env) fp) (up x (wipeG G (own.map (·.2)))) W elt (r x)
theorem de_lc {α : Type} {xs : List α} {p : α → VP} {f : α → Bool} {r : α → VP} {up : α → Gm → Gm} (hN : X.N.Nodup) (hi : DI X G W tg iter (xs.map p)) (L : LcOk X G W xs p f r elt tg ifs scope own js up) (hc : X.calm = true := by rfl) (hs : ∀ x, foldedSetIterable iter X.env x = pure x := by intro _; rfl) :
    DE X G W (.ListComp elt [⟨tg, iter, ifs, 0⟩] scope pos) (rLi X.K ((xs.filter f).map r)) :=
  PE.to (pe_lc hc hN hi L.ok (fun s H C cl fp => ⟨fun pins s σ H v u Q I rr ⟨x, hx, q⟩ => (L.tg _ _ C cl fp x hx).run pins s σ H v u Q I rr q⟩)
    (fun s H C cl fp => ⟨fun pins s σ H Q I ⟨x, hx, q⟩ => (L.ifs _ _ C cl fp x hx).run pins s σ H Q I q⟩) (fun s H C cl fp => ⟨fun pins s σ H Q I ⟨x, hx, hf, q⟩ => (L.elt _ _ C cl fp x hx hf).run pins s σ H Q I q⟩) hs) fun s H Q h => lc_read L.jsOk L.sz h
/-- name = [..] on one line, the name a local -/
theorem dss_setLc (i : Nat) {y : Str} {py spos : Pos} {rest : List Stmt} {D : DEn} {α : Type} {xs : List α} {p : α → VP} {f : α → Bool} {r : α → VP} {up : α → Gm → Gm} (hN : X.N.Nodup) (hi : DI X G W tg iter (xs.map p)) (L : LcOk X G W xs p f r elt tg ifs scope own js up)
    (h : DSs X (G.set i (some (rLi X.K ((xs.filter f).map r)))) W rest D) (hy : X.N[i]? = some y := by rfl) (hyl : X.env.scope.names.lookup y = some .local := by rfl)
    (hsw : swapsWith (.ListComp elt [⟨tg, iter, ifs, 0⟩] scope pos) (some (.Name y py)) spos.line X.env = pure true := by exact sw_true rfl rfl rfl (by decide +kernel)) (hc : X.calm = true := by rfl) (hs : ∀ x, foldedSetIterable iter X.env x = pure x := by intro _; rfl) :
    DSs X G W (.Assign [.Name y py] (.ListComp elt [⟨tg, iter, ifs, 0⟩] scope pos) spos :: rest) D :=
  dss_cons (PS.to (ps_setLc hc hN hy hyl hsw hi L.ok (fun s H C cl fp => ⟨fun pins s σ H v u Q I rr ⟨x, hx, q⟩ => (L.tg _ _ C cl fp x hx).run pins s σ H v u Q I rr q⟩)
    (fun s H C cl fp => ⟨fun pins s σ H Q I ⟨x, hx, q⟩ => (L.ifs _ _ C cl fp x hx).run pins s σ H Q I q⟩) (fun s H C cl fp => ⟨fun pins s σ H Q I ⟨x, hx, hf, q⟩ => (L.elt _ _ C cl fp x hx hf).run pins s σ H Q I q⟩) hs) fun E s H ⟨c, S, eo⟩ =>
      lc_read (K := X.K) L.jsOk L.sz ⟨c, S, fun v H' S' e' b => eo.nx _ W _ H' h (S'.setE i b)⟩)
end
end
end SQ
end
section
set_option maxHeartbeats 4000000
namespace SQ
open PySem PySem.Spec PyProof.Rows L2
noncomputable section
section
variable {X : Cx} {G : Gm} {W : Ow} {e a b : Expr} {es : List Expr} {P P1 P2 Q1 : VP} {Ps Qs : List VP} {pos apos p : Pos} {x y z : V} {K : PySem.W.Frag}

/-! ### numbers of any size -/
theorem od_mul {i j : Int} (h : (-(2 ^ 64) < i ∧ i < 2 ^ 64) ∨ (-(2 ^ 64) < j ∧ j < 2 ^ 64)) : OpD X W (binaryOp .Mult) (is (.int i)) (is (.int j)) (is (.int (i * j))) := od_val op_mul fun _ _ q => ⟨i, j, rfl, rfl, h, q⟩
theorem od_pow {i j : Int} (h : 0 ≤ j ∧ j ≤ 1000000 ∧ i.natAbs < 2 ^ 64) : OpD X W (binaryOp .Pow) (is (.int i)) (is (.int j)) (is (.int (i ^ j.toNat))) := od_val op_pow fun _ _ q => ⟨i, j, rfl, rfl, h, q⟩
theorem od_shl {i j : Int} (h : 0 ≤ j ∧ (Builtin.Int.intBits i : Int) + j ≤ 2 ^ 27) : OpD X W (binaryOp .LShift) (is (.int i)) (is (.int j)) (is (.int (i * 2 ^ j.toNat))) := od_val op_shlW fun _ _ q => ⟨i, j, rfl, rfl, h, q⟩
theorem od_fdivW {i j : Int} (h1 : 0 < j) (h2 : j.natAbs.log2 < 9000) : OpD X W (binaryOp .FloorDiv) (is (.int i)) (is (.int j)) (is (.int (i / j))) := od_val op_fdivW fun _ _ q => ⟨i, j, rfl, rfl, ⟨h1, h2⟩, q⟩

/-! ### built-ins of plain values -/
theorem ca_val {f : Value} {r : List V → Hp → VK → Prop} {xs : List V} (h : CallR X f r) (q : ∀ (H : Hp) (Q : VK), Q z H → r xs H Q) : CaD X W f (xs.map is) (is z) := ⟨r, h, fun c G s H vs Q S b k => by
  rw [bxs_is b]
  exact q H Q (k z H (Same.refl H) bx_is)⟩
theorem ca_abs {i : Int} : CaD X W (.builtin "abs") [is (.int i)] (is (.int (if i < 0 then -i else i))) := ca_val (xs := [.int i]) call_abs fun _ _ q => ⟨i, rfl, q⟩
theorem ca_max2 {i j : Int} (hc : X.calm = true := by rfl) : CaD X W (.builtin "max") [is (.int i), is (.int j)] (is (.int (if j > i then j else i))) := ca_val (xs := [.int i, .int j]) (call_max2 hc) fun _ _ q => ⟨i, j, rfl, q⟩
theorem ca_min2 {i j : Int} (hc : X.calm = true := by rfl) : CaD X W (.builtin "min") [is (.int i), is (.int j)] (is (.int (if j < i then j else i))) := ca_val (xs := [.int i, .int j]) (call_min2 hc) fun _ _ q => ⟨i, j, rfl, q⟩
theorem ca_int {i : Int} : CaD X W (.type "int") [is (.int i)] (is (.int i)) := ca_val (xs := [.int i]) call_int1 fun _ _ q => .inl ⟨i, rfl, q⟩
theorem ca_intB {k : Bool} : CaD X W (.type "int") [is (.bl k)] (is (.int (if k then 1 else 0))) := ca_val (xs := [.bl k]) call_int1 fun _ _ q => .inr ⟨k, rfl, q⟩
theorem ca_str {i : Int} (h : i.natAbs.log2 < 1920) : CaD X W (.type "str") [is (.int i)] (is (.str (toString i))) := ca_val (xs := [.int i]) call_str_int fun _ _ q => ⟨i, rfl, h, q⟩
theorem ca_lenS {i : Str} (h : i.length ≤ 100000) : CaD X W (.builtin "len") [is (.str i)] (is (.int i.length)) := ca_val (xs := [.str i]) call_len fun _ _ q => ⟨.str i, i.length, rfl, ⟨sz_of h, rfl⟩, q⟩
/-- divmod -/
theorem ca_divmod {i j : Int} (h : 0 < j) (h2 : j.natAbs.log2 < 9000) : CaD X W (.builtin "divmod") [is (.int i), is (.int j)] (rTr [.int (i / j), .int (i % j)]) := ⟨_, call_divmodW, fun c G s H vs Q S b k => by
  rw [bxs_is (xs := [.int i, .int j]) b]
  exact ⟨i, j, rfl, ⟨h, PyProof.noPylong_of_log2 h2⟩, fun p hp => k _ _ (Same.new hp) (bx_tr (S.newV hp))⟩⟩

/-! ### lists, tuples -/
theorem ca_lenL : CaD X W (.builtin "len") [rLi X.K Ps] (is (.int Ps.length)) := ⟨_, call_len, fun c G s H vs Q S b k => by
  cases b with
  | cons b1 r =>
    cases r
    obtain ⟨a, us, ev, hq, r⟩ := b1.here
    subst ev
    refine ⟨.ref a, us.length, rfl, .inl ⟨us, Same.lsq vis_sub hq, rfl⟩, k _ H (Same.refl H) ?_⟩
    rw [Paired.length r]
    exact bx_is⟩
theorem ca_lenT : CaD X W (.builtin "len") [rTu X.K Ps] (is (.int Ps.length)) := ⟨_, call_len, fun c G s H vs Q S b k => by
  cases b with
  | cons b1 r =>
    cases r
    obtain ⟨a, us, ev, hq, r⟩ := b1.here
    subst ev
    refine ⟨.ref a, us.length, rfl, .inr ⟨us, Same.t vis_sub hq, rfl⟩, k _ H (Same.refl H) ?_⟩
    rw [Paired.length r]
    exact bx_is⟩
theorem bx1 {Hv : Hp} {vs : List V} (b : Paired (fun P v => Bx P v Hv) [P] vs) : ∃ v, vs = [v] ∧ Bx P v Hv := by
  cases b with
  | cons b1 r =>
    cases r
    exact ⟨_, rfl, b1⟩
theorem li_vals {Hv : Hp} {v : V} {xs : List V} (b : Bx (rLi K (xs.map is)) v Hv) : ∃ a, v = .ref a ∧ Hv a = some (.lst xs) := by
  obtain ⟨a, us, ev, hq, r⟩ := b.here
  rw [bxs_is r] at hq
  exact ⟨a, ev, hq⟩
theorem tu_vals {Hv : Hp} {v : V} {xs : List V} (b : Bx (rTu K (xs.map is)) v Hv) : ∃ a, v = .ref a ∧ SqT K Hv a xs := by
  obtain ⟨a, us, ev, hq, r⟩ := b.here
  rw [bxs_is r] at hq
  exact ⟨a, ev, hq⟩
theorem map_is {α : Type} (f : α → V) (xs : List α) : (xs.map f).map is = xs.map fun x => is (f x) := by rw [List.map_map]; rfl
theorem ca_sum {ns : List Int} (hc : X.calm = true := by rfl) : CaD X W (.builtin "sum") [rLi X.K (ns.map fun n => is (.int n))] (is (.int ns.sum)) := ⟨_, cr_sum hc, fun c G s H vs Q S b k => by
  obtain ⟨v, rfl, b1⟩ := bx1 b
  rw [← map_is V.int ns] at b1
  obtain ⟨a, rfl, hq⟩ := li_vals b1
  exact ⟨a, ns, rfl, Same.lsq vis_sub hq, k _ H (Same.refl H) bx_is⟩⟩
theorem ca_all {ns : List Bool} (hc : X.calm = true := by rfl) : CaD X W (.builtin "all") [rLi X.K (ns.map fun n => is (.bl n))] (is (.bl (ns.all id))) := ⟨_, cr_all hc, fun c G s H vs Q S b k => by
  obtain ⟨v, rfl, b1⟩ := bx1 b
  rw [← map_is V.bl ns] at b1
  obtain ⟨a, rfl, hq⟩ := li_vals b1
  exact ⟨a, ns, rfl, Same.lsq vis_sub hq, k _ H (Same.refl H) bx_is⟩⟩
theorem ca_any {ns : List Bool} (hc : X.calm = true := by rfl) : CaD X W (.builtin "any") [rLi X.K (ns.map fun n => is (.bl n))] (is (.bl (ns.any id))) := ⟨_, cr_any hc, fun c G s H vs Q S b k => by
  obtain ⟨v, rfl, b1⟩ := bx1 b
  rw [← map_is V.bl ns] at b1
  obtain ⟨a, rfl, hq⟩ := li_vals b1
  exact ⟨a, ns, rfl, Same.lsq vis_sub hq, k _ H (Same.refl H) bx_is⟩⟩
theorem ca_maxL {ns : List Int} {m : Int} (hm : m ∈ ns) (hl : ∀ y ∈ ns, y ≤ m) (hc : X.calm = true := by rfl) : CaD X W (.builtin "max") [rLi X.K (ns.map fun n => is (.int n))] (is (.int m)) := ⟨_, cr_max hc, fun c G s H vs Q S b k => by
  obtain ⟨v, rfl, b1⟩ := bx1 b
  rw [← map_is V.int ns] at b1
  obtain ⟨a, rfl, hq⟩ := li_vals b1
  refine ⟨a, ns, rfl, Same.lsq vis_sub hq, List.length_pos_of_mem hm, fun m' h1 h2 => ?_⟩
  have e : m' = m := Int.le_antisymm (hl m' h1) (h2 m hm)
  subst e
  exact k _ H (Same.refl H) bx_is⟩
theorem ca_minL {ns : List Int} {m : Int} (hm : m ∈ ns) (hl : ∀ y ∈ ns, m ≤ y) (hc : X.calm = true := by rfl) : CaD X W (.builtin "min") [rLi X.K (ns.map fun n => is (.int n))] (is (.int m)) := ⟨_, cr_min hc, fun c G s H vs Q S b k => by
  obtain ⟨v, rfl, b1⟩ := bx1 b
  rw [← map_is V.int ns] at b1
  obtain ⟨a, rfl, hq⟩ := li_vals b1
  refine ⟨a, ns, rfl, Same.lsq vis_sub hq, List.length_pos_of_mem hm, fun m' h1 h2 => ?_⟩
  have e : m' = m := Int.le_antisymm (h2 m hm) (hl m' h1)
  subst e
  exact k _ H (Same.refl H) bx_is⟩
/-- sorted of ints -/
theorem ca_sorted {ns ms : List Int} (hl : ns.length < 64) (hp : ms.Perm ns) (hs : ms.Pairwise (· ≤ ·)) : CaD X W (.builtin "sorted") [rLi X.K (ns.map fun n => is (.int n))] (rLi X.K (ms.map fun n => is (.int n))) := ⟨_, cr_sorted, fun c G s H vs Q S b k => by
  obtain ⟨v, rfl, b1⟩ := bx1 b
  rw [← map_is V.int ns] at b1
  obtain ⟨a, rfl, hq⟩ := li_vals b1
  refine ⟨a, ns, rfl, Same.lsq vis_sub hq, hl, fun ns' p h1 h2 hp' => ?_⟩
  have e : ns' = ms := (h1.trans hp.symm).eq_of_pairwise (le := (· ≤ ·)) (fun a b _ _ h h' => Int.le_antisymm h h') h2 hs
  subst e
  refine k _ _ (Same.new hp') ?_
  rw [← map_is V.int ns']
  exact bx_li (S.newV hp') (is_bxs _)⟩
/-- tuple(list), list(tuple) -/
theorem ca_tupL : CaD X W (.type "tuple") [rLi X.K Ps] (rTu X.K Ps) := ⟨_, call_tuple_of, fun c G s H vs Q S b k => by
  obtain ⟨v, rfl, b1⟩ := bx1 b
  obtain ⟨a, us, rfl, hq, r⟩ := b1.here
  exact ⟨a, us, rfl, .inl ⟨Same.lsq vis_sub hq, fun l hl => k _ _ (Same.new hl) (bx_tu (SqT.of (S.newV hl)) (bxs_mono (vis_same (Same.new hl)) r))⟩⟩⟩

/-! ### list + list, slices -/
theorem od_cat (h : Ps.length + Qs.length ≤ 100000) : OpD X W (binaryOp .Add) (rLi X.K Ps) (rLi X.K Qs) (rLi X.K (Ps ++ Qs)) := ⟨_, op_cat, fun c G s H v1 v2 Q S b1 b2 k => by
  obtain ⟨a, us, rfl, hq, r⟩ := b1.here
  obtain ⟨b, ws, rfl, hq2, r2⟩ := b2.here
  refine ⟨a, b, us, ws, rfl, rfl, vis_sub _ _ hq, vis_sub _ _ hq2, ?_, fun p hp => k _ _ (Same.new hp) (bx_li (S.newV hp) (bxs_mono (vis_same (Same.new hp)) (paired_app r r2)))⟩
  rw [← Paired.length r, ← Paired.length r2]
  exact sz_of h⟩
/-- an end of a slice -/
abbrev DO (X : Cx) (G : Gm) (W : Ow) (o : Option Expr) (i : Option Int) : Prop := PO X o (fun s H Q => ∃ c, StOk c G W s H ∧ ∀ H', StOk c G W s H' → Same (vis c W H) (vis c W H') → Q i H')
theorem PO.to {o : Option Expr} {t t' : TO} (h : PO X o t) (q : ∀ s H R, t' s H R → t s H R) : PO X o t' := ⟨fun pins s σ H R I hw => h.run pins s σ H R I (q σ H R hw)⟩
theorem do_none : DO X G W none none := PO.to po_none fun s H Q ⟨c, S, k⟩ => k H S (Same.refl _)
theorem do_some {i : Int} (h : DE X G W e (is (.int i))) : DO X G W (some e) (some i) := PO.to (po_some h) fun s H Q ⟨c, S, k⟩ => ⟨c, S, fun v H' S' e' b => ⟨i, b.eq, k H' S' e'⟩⟩
def cutP (Ps : List VP) (lo hi : Option Int) : List VP := (Ps.drop (HT.sIx Ps.length 0 lo)).take (HT.sIx Ps.length Ps.length hi - HT.sIx Ps.length 0 lo)
theorem de_slL {lo hi : Option Expr} {i j : Option Int} {p2 : Pos} (he : DE X G W e (rLi X.K Ps)) (hl : DO X G W lo i) (hu : DO X G W hi j) : DE X G W (.Subscript e (.Slice lo hi none p2) pos) (rLi X.K (cutP Ps i j)) :=
  PE.to (pe_slice sl_list he hl hu) fun s H Q ⟨c, S, k⟩ => ⟨c, S, fun v H1 S1 e1 b1 => ⟨c, S1, fun H2 S2 e2 => ⟨c, S2, fun H3 S3 e3 => by
    obtain ⟨a, us, rfl, hq, r⟩ := (b1.mono (e2.trans e3)).here
    refine ⟨a, us, rfl, Same.lsq vis_sub hq, fun p hp => k _ _ (S3.same (Same.new hp)) (((e1.trans e2).trans e3).trans (vis_same (Same.new hp))) (bx_li (S3.newV hp) (bxs_mono (vis_same (Same.new hp)) ?_))⟩
    unfold cutP L2.cutV
    rw [Paired.length r]
    exact paired_take _ (paired_drop _ r)⟩⟩⟩
theorem de_slS {lo hi : Option Expr} {i j : Option Int} {p2 : Pos} {t : Str} (he : DE X G W e (is (.str t))) (hl : DO X G W lo i) (hu : DO X G W hi j) (hz : t.length ≤ 100000) : DE X G W (.Subscript e (.Slice lo hi none p2) pos) (is (.str (cutS t i j))) :=
  PE.to (pe_slice sl_str he hl hu) fun s H Q ⟨c, S, k⟩ => ⟨c, S, fun v H1 S1 e1 b1 => ⟨c, S1, fun H2 S2 e2 => ⟨c, S2, fun H3 S3 e3 => ⟨t, b1.eq, sz_of hz, k _ H3 S3 ((e1.trans e2).trans e3) bx_is⟩⟩⟩⟩
/-- xs[::-1] -/
theorem de_rev {k : Nat} {p1 p2 p3 : Pos} (he : DE X G W e (rLi X.K Ps)) : DE X G W (.Subscript e (.Slice none none (some (.UnaryOp .USub (.Constant (.int 1) k p1) p2)) p3) pos) (rLi X.K Ps.reverse) :=
  PE.to (pe_revL he) fun s H Q ⟨c, S, q⟩ => ⟨c, S, fun v H1 S1 e1 b1 => by
    obtain ⟨a, us, rfl, hq, r⟩ := b1.here
    refine ⟨a, us, rfl, Same.lsq vis_sub hq, fun p hp => q _ _ (S1.same (Same.new hp)) (e1.trans (vis_same (Same.new hp))) (bx_li (S1.newV hp) (bxs_mono (vis_same (Same.new hp)) ?_))⟩
    have rv : ∀ {Ps : List VP} {us : List V} {Hv : Hp}, Paired (fun P u => Bx P u Hv) Ps us → Paired (fun P u => Bx P u Hv) Ps.reverse us.reverse := by
      intro Ps us Hv r
      induction r with
      | nil => exact .nil
      | cons a r ih =>
        rw [List.reverse_cons, List.reverse_cons]
        exact paired_app ih (.cons a .nil)
    exact rv r⟩

/-! ### in, of flat things -/
theorem od_inF {x : V} {xs : List V} (hx : flatV x = true) (ha : xs.all flatV = true) : OpD X W (compareOp .In) (is x) (rLi X.K (xs.map is)) (is (.bl (inV x xs))) := ⟨_, op_in_seq, fun c G s H v1 v2 Q S b1 b2 k => by
  obtain ⟨a, rfl, hq⟩ := li_vals b2
  rw [b1.eq]
  exact ⟨a, xs, rfl, .inl (Same.lsq vis_sub hq), hx, ha, k _ H (Same.refl H) bx_is⟩⟩
theorem od_inFT {x : V} {xs : List V} (hx : flatV x = true) (ha : xs.all flatV = true) : OpD X W (compareOp .In) (is x) (rTu X.K (xs.map is)) (is (.bl (inV x xs))) := ⟨_, op_in_seq, fun c G s H v1 v2 Q S b1 b2 k => by
  obtain ⟨a, rfl, hq⟩ := tu_vals b2
  rw [b1.eq]
  exact ⟨a, xs, rfl, .inr (Same.t vis_sub hq), hx, ha, k _ H (Same.refl H) bx_is⟩⟩
theorem od_notInFT {x : V} {xs : List V} (hx : flatV x = true) (ha : xs.all flatV = true) : OpD X W (compareOp .NotIn) (is x) (rTu X.K (xs.map is)) (is (.bl (!inV x xs))) := ⟨_, op_notIn_seq, fun c G s H v1 v2 Q S b1 b2 k => by
  obtain ⟨a, rfl, hq⟩ := tu_vals b2
  rw [b1.eq]
  exact ⟨a, xs, rfl, .inr (Same.t vis_sub hq), hx, ha, k _ H (Same.refl H) bx_is⟩⟩

/-! ### texts' methods -/
theorem de_split {i j : Str} (ha : DE X G W a (is (.str i))) (hb : DE X G W b (is (.str j))) (h0 : (j.length == 0) = false) (hz : i.length ≤ 100000) (hs : starEach [b] X.env = [(false, eval b X.env)] := by rfl) (hbase : attributeBase a "split" X.env (eval a X.env) = eval a X.env := by rfl) (hline : (apos.endLine == pos.line) = true := by rfl) :
    DE X G W (.Call (.Attribute a "split" apos) [b] [] pos) (rLi X.K ((Txt.split i j).map fun t => is (.str t))) := PE.to (pe_split ha hb hs hbase hline) fun s H Q ⟨c, S, k⟩ => ⟨c, S, fun v H1 S1 e1 b1 => ⟨⟨i, b1.eq⟩, c, S1, fun v2 H2 S2 e2 b2 =>
      ⟨i, j, b1.eq, by rw [b2.eq], h0, by have := sizeLine_eq; omega, fun p hp => k _ _ (S2.same (Same.new hp)) ((e1.trans e2).trans (vis_same (Same.new hp))) (by rw [← map_is V.str]; exact bx_li (S2.newV hp) (is_bxs _))⟩⟩⟩
theorem de_m1 {id : String} {name : Str} {i : Str} {g : Str → Str → V} {j : Str} (slot : Slot "str" name id) (ty : typeOf (.builtin id) = pure (.type "method_descriptor")) (rule : MtR X id (fun x xs H Q => ∃ a b, x = .str a ∧ xs = [.str b] ∧ Q (g a b) H)) (ha : DE X G W a (is (.str i))) (hb : DE X G W b (is (.str j)))
    (hs : starEach [b] X.env = [(false, eval b X.env)] := by rfl) (hbase : attributeBase a name X.env (eval a X.env) = eval a X.env := by rfl) (hline : (apos.endLine == pos.line) = true := by rfl) :
    DE X G W (.Call (.Attribute a name apos) [b] [] pos) (is (g i j)) := PE.to (pe_m1 slot ty rule ha hb hs hbase hline) fun s H Q ⟨c, S, k⟩ => ⟨c, S, fun v H1 S1 e1 b1 => ⟨⟨i, b1.eq⟩, c, S1, fun v2 H2 S2 e2 b2 =>
      ⟨i, j, b1.eq, by rw [b2.eq], k _ H2 S2 (e1.trans e2) bx_is⟩⟩⟩
theorem de_endswith {i j : Str} (ha : DE X G W a (is (.str i))) (hb : DE X G W b (is (.str j))) (hs : starEach [b] X.env = [(false, eval b X.env)] := by rfl) (hbase : attributeBase a "endswith" X.env (eval a X.env) = eval a X.env := by rfl) (hline : (apos.endLine == pos.line) = true := by rfl) :
    DE X G W (.Call (.Attribute a "endswith" apos) [b] [] pos) (is (.bl (Txt.endswith i j))) := de_m1 (g := fun i j => .bl (Txt.endswith i j)) F.slot_str_endswith F.type_str_endswith mt_endswith ha hb hs hbase hline
theorem de_startswith {i j : Str} (ha : DE X G W a (is (.str i))) (hb : DE X G W b (is (.str j))) (hs : starEach [b] X.env = [(false, eval b X.env)] := by rfl) (hbase : attributeBase a "startswith" X.env (eval a X.env) = eval a X.env := by rfl) (hline : (apos.endLine == pos.line) = true := by rfl) :
    DE X G W (.Call (.Attribute a "startswith" apos) [b] [] pos) (is (.bl (Txt.startswith i j))) := de_m1 (g := fun i j => .bl (Txt.startswith i j)) F.slot_str_startswith F.type_str_startswith mt_startswith ha hb hs hbase hline
theorem de_join {i : Str} {ys : List Str} (ha : DE X G W a (is (.str i))) (hb : DE X G W b (rLi X.K (ys.map fun t => is (.str t)))) (hz : (ys.map (·.length)).sum + ys.length * i.length ≤ 1000000) (hs : starEach [b] X.env = [(false, eval b X.env)] := by rfl)
    (hbase : attributeBase a "join" X.env (eval a X.env) = eval a X.env := by rfl) (hline : (apos.endLine == pos.line) = true := by rfl) : DE X G W (.Call (.Attribute a "join" apos) [b] [] pos) (is (.str (Txt.join i ys))) :=
  PE.to (pe_join ha hb hs hbase hline) fun s H Q ⟨c, S, k⟩ => ⟨c, S, fun v H1 S1 e1 b1 => ⟨⟨i, b1.eq⟩, c, S1, fun v2 H2 S2 e2 b2 => by
    rw [← map_is V.str ys] at b2
    obtain ⟨p, rfl, hq⟩ := li_vals b2
    exact ⟨i, p, ys, b1.eq, rfl, .inl (Same.lsq vis_sub hq), by omega, k _ H2 S2 (e1.trans e2) bx_is⟩⟩⟩

/-! ### isinstance -/
theorem ca_isi {x : V} {t : String} {n : String} {r : Bool} (hx : ∀ (K : PySem.W.Frag) (H : Hp), TyX K H x (.type t)) (hk : kitB t n = some r := by decide +kernel) : CaD X W (.builtin "isinstance") [is x, is (.ty n)] (is (.bl r)) := ca_val (xs := [x, .ty n]) call_isi fun H _ q => ⟨x, .ty n, .type t, .type n, r, rfl, .ty n, hx _ H, kit_ty hk, q⟩
theorem ty_int {i : Int} (K : PySem.W.Frag) (H : Hp) : TyX K H (.int i) (.type "int") := .base (.int i)
theorem ty_str {i : Str} (K : PySem.W.Frag) (H : Hp) : TyX K H (.str i) (.type "str") := .base (.str i)
theorem ca_isiT {n : String} {r : Bool} (hk : kitB "tuple" n = some r := by decide +kernel) : CaD X W (.builtin "isinstance") [rTu X.K Ps, is (.ty n)] (is (.bl r)) := ⟨_, call_isi, fun c G s H vs Q S b k => by
  cases b with
  | cons b1 q =>
    cases q with
    | cons b2 q =>
      cases q
      obtain ⟨a, us, rfl, hq, _⟩ := b1.here
      rw [b2.eq]
      refine ⟨.ref a, .ty n, .type "tuple", .type n, r, rfl, .ty n, ?_, kit_ty hk, k _ H (Same.refl H) bx_is⟩
      rcases Same.t vis_sub hq with (h | ⟨o, h⟩) | ⟨o, its, m, h1, h2, _⟩
      · exact .base (.tup h)
      · exact .fTuple h
      · exact .kTuple h1 h2⟩
end
end
end SQ
end
section
set_option maxHeartbeats 4000000
namespace SQ
open PySem PySem.Spec PyProof.Rows L2
noncomputable section

/-! ### values as data of any depth -/
mutual
theorem Dp.mono {K : PySem.W.Frag} {H H' : Hp} (e : Same H H') : ∀ {v : V} {d : PyData}, Dp K H v d → Dp K H' v d
  | _, _, .non => .non
  | _, _, .bl b => .bl b
  | _, _, .int i => .int i
  | _, _, .str x => .str x
  | _, _, .lst h r => .lst (Same.seq e h) (DpAll.mono e r)
  | _, _, .tup h r => .tup (Same.t e h) (DpAll.mono e r)
theorem DpAll.mono {K : PySem.W.Frag} {H H' : Hp} (e : Same H H') : ∀ {v : List V} {d : List PyData}, DpAll K H v d → DpAll K H' v d
  | _, _, .nil => .nil
  | _, _, .cons a r => .cons (Dp.mono e a) (DpAll.mono e r)
end
/-- P tells the value's data -/
def Dt (K : PySem.W.Frag) (P : VP) (d : PyData) : Prop := ∀ v H, Bx P v H → Dp K H v d
section
variable {K : PySem.W.Frag} {P : VP} {Ps : List VP} {xs : List V}
theorem dt_int {i : Int} : Dt K (is (.int i)) (.int i) := fun v H b => by rw [b.eq]; exact .int i
theorem dt_str {i : Str} : Dt K (is (.str i)) (.str i) := fun v H b => by rw [b.eq]; exact .str i
def dV : V → PyData
  | .int i => .int i
  | .str x => .str x
  | .bl b => .bool b
  | _ => .none
def plV : V → Bool
  | .int _ => true
  | .str _ => true
  | .bl _ => true
  | .non => true
  | _ => false
theorem dp_pl {H : Hp} : ∀ {v : V}, plV v = true → Dp K H v (dV v)
  | .int i, _ => .int i
  | .str x, _ => .str x
  | .bl b, _ => .bl b
  | .non, _ => .non
theorem dps_pl {H : Hp} : ∀ {xs : List V}, xs.all plV = true → DpAll K H xs (xs.map dV)
  | [], _ => .nil
  | x :: xs, h => by
    rw [List.all_cons, Bool.and_eq_true] at h
    exact .cons (dp_pl h.1) (dps_pl h.2)
theorem dt_tr (h : xs.all plV = true := by rfl) : Dt K (rTr xs) (.tuple (xs.map dV)) := fun v H b => by
  obtain ⟨a, rfl, h1⟩ := b.here
  exact .tup (SqT.of h1) (dps_pl h)
theorem dt_all {H : Hp} : ∀ {Ps : List VP} {ds : List PyData} {vs : List V}, Paired (Dt K) Ps ds → Paired (fun P u => Bx P u H) Ps vs → DpAll K H vs ds
  | _, _, _, .nil, .nil => .nil
  | _, _, _, .cons a r, .cons b s => .cons (a _ _ b) (dt_all r s)
theorem dt_li {ds : List PyData} (h : Paired (Dt K) Ps ds) : Dt K (rLi K Ps) (.list ds) := fun v H b => by
  obtain ⟨a, us, rfl, h1, r⟩ := b.here
  exact .lst (SqL.of h1) (dt_all h r)
theorem dt_tu {ds : List PyData} (h : Paired (Dt K) Ps ds) : Dt K (rTu K Ps) (.tuple ds) := fun v H b => by
  obtain ⟨a, us, rfl, h1, r⟩ := b.here
  exact .tup h1 (dt_all h r)
theorem paired_map {α β γ : Type} {F : β → γ → Prop} {f : α → β} {g : α → γ} : ∀ {xs : List α}, (∀ x ∈ xs, F (f x) (g x)) → Paired F (xs.map f) (xs.map g)
  | [], _ => .nil
  | x :: xs, h => .cons (h x List.mem_cons_self) (paired_map fun y hy => h y (List.mem_cons_of_mem _ hy))
end
section
variable {X : Cx} {G : Gm} {W : Ow} {e a b : Expr} {P P1 P2 : VP} {Ps : List VP} {d d2 : PyData} {ds : List PyData} {pos apos : Pos} {k : Nat}
theorem od_inD (hr : Room k X.A) (h1 : Dt X.K P1 d) (h2 : Dt X.K P2 (.list ds)) (s1 : SeqAt.shaped d = true) (s2 : SeqAt.shaped (.list ds) = true) : OpD X W (compareOp .In) P1 P2 (is (.bl (ds.any fun z => PyData.eqv z d))) :=
  ⟨_, op_inD (by have := hr.un; omega), fun c G s H v1 v2 Q S b1 b2 q => ⟨d, ds, Dp.mono vis_sub (h1 _ _ b1), Dp.mono vis_sub (h2 _ _ b2), s1, s2, q _ H (Same.refl H) bx_is⟩⟩
theorem od_notInD (hr : Room k X.A) (h1 : Dt X.K P1 d) (h2 : Dt X.K P2 (.list ds)) (s1 : SeqAt.shaped d = true) (s2 : SeqAt.shaped (.list ds) = true) : OpD X W (compareOp .NotIn) P1 P2 (is (.bl (!ds.any fun z => PyData.eqv z d))) :=
  ⟨_, op_notInD (by have := hr.un; omega), fun c G s H v1 v2 Q S b1 b2 q => ⟨d, ds, Dp.mono vis_sub (h1 _ _ b1), Dp.mono vis_sub (h2 _ _ b2), s1, s2, q _ H (Same.refl H) bx_is⟩⟩
theorem od_eqD (hr : Room k X.A) (h1 : Dt X.K P1 d) (h2 : Dt X.K P2 d2) (s1 : SeqAt.shaped d = true) (s2 : SeqAt.shaped d2 = true) : OpD X W (compareOp .Eq) P1 P2 (is (.bl (PyData.eqv d d2))) :=
  ⟨_, op_eqD (by have := hr.un; omega), fun c G s H v1 v2 Q S b1 b2 q => ⟨d, d2, Dp.mono vis_sub (h1 _ _ b1), Dp.mono vis_sub (h2 _ _ b2), s1, s2, q _ H (Same.refl H) bx_is⟩⟩
theorem od_neD (hr : Room k X.A) (h1 : Dt X.K P1 d) (h2 : Dt X.K P2 d2) (s1 : SeqAt.shaped d = true) (s2 : SeqAt.shaped d2 = true) : OpD X W (compareOp .NotEq) P1 P2 (is (.bl (!PyData.eqv d d2))) :=
  ⟨_, op_neD (by have := hr.un; omega), fun c G s H v1 v2 Q S b1 b2 q => ⟨d, d2, Dp.mono vis_sub (h1 _ _ b1), Dp.mono vis_sub (h2 _ _ b2), s1, s2, q _ H (Same.refl H) bx_is⟩⟩
end

/-! ### a tuple that tuple() made: its object is known, so it has methods -/
def rTf (K : PySem.W.Frag) (Ps : List VP) : VP := fun v H => ∃ a o vs, v = .ref a ∧ H a = some (.frz o (.tup vs)) ∧ o.cls = .type "tuple" ∧ o.dict = none ∧ Paired (fun P u => Bx P u H) Ps vs
theorem tf_tu {K : PySem.W.Frag} {Ps : List VP} {v : V} {H : Hp} (h : Bx (rTf K Ps) v H) : Bx (rTu K Ps) v H := by
  obtain ⟨a, o, vs, rfl, h1, _, _, r⟩ := h.here
  exact bx_tu (.inl (.inr ⟨o, h1⟩)) r
theorem call_tuple_frz {X : Cx} : CallR X (.type "tuple") (fun xs H Q => ∃ p ys, xs = [.ref p] ∧ SqL X.K H p ys ∧ ∀ l o, H l = none → o.cls = .type "tuple" → o.dict = none → Q (.ref l) (upd H l (.frz o (.tup ys)))) := by
  intro pins s σ H xs us Q I r h
  obtain ⟨p, ys, rfl, hq, q⟩ := h
  obtain ⟨u, rfl, rx⟩ := vals1 r
  cases rx
  obtain ⟨its, r', pl, hz⟩ := I.list hq
  have hlen := r'.length
  refine call_tuple_list pl.isList (fun h' kp => ?_) (by simp only [List.size_toArray] <;> omega)
  have I1 : Inv X pins σ H { s with heap := h' } := I.kept (t' := s.toks) kp
  have I2 : Inv X pins σ (upd H h'.objs.size (.frz { cls := .type "tuple", data := .seq its.toArray } (.tup ys))) { s with heap := h'.push { cls := .type "tuple", data := .seq its.toArray } } :=
    I1.laid (t' := s.toks) (fun b o e => Heap.get?_push_of_some _ e) (Nat.le_refl _) (show ObjOk X.prog X.w _ _ _ (.frz _ (.tup ys)) from ⟨Heap.get?_push_size _ rfl, hz, its, r', IsTup.new _ _⟩)
  exact ⟨.ref h'.objs.size, _, I2, rfl, q _ _ (I1.hok.fresh (Nat.le_refl _)) rfl rfl⟩
section
variable {X : Cx} {G : Gm} {W : Ow} {e a b : Expr} {P P1 P2 : VP} {Ps : List VP} {d d2 : PyData} {ds : List PyData} {pos apos cpos : Pos} {k : Nat} {p : Pos}
theorem ca_tupF : CaD X W (.type "tuple") [rLi X.K Ps] (rTf X.K Ps) := ⟨_, call_tuple_frz, fun c G s H vs Q S b k => by
  obtain ⟨v, rfl, b1⟩ := bx1 b
  obtain ⟨a, us, rfl, hq, r⟩ := b1.here
  refine ⟨a, us, rfl, Same.lsq vis_sub hq, fun l o hl h1 h2 => k _ _ (Same.new hl) fun H' e' => ⟨l, o, us, rfl, e' _ _ (S.newV hl), h1, h2, bxs_mono e' (bxs_mono (vis_same (Same.new hl)) r)⟩⟩⟩
/-- t.index(e) -/
theorem de_tindex (j : Nat) {z : PyData} (hr : Room k X.A) (h1 : Paired (Dt X.K) Ps ds) (h2 : Dt X.K P d) (sh1 : SeqAt.shaped (.list ds) = true) (sh2 : SeqAt.shaped d = true) (hz : ds[j]? = some z) (hzj : PyData.eqv z d = true)
    (hno : ∀ (m : Nat) (z' : PyData), m < j → ds[m]? = some z' → PyData.eqv z' d = false) (ho : DE X G W a (rTf X.K Ps)) (ha : DE X G W e P)
    (hbase : attributeBase a "index" X.env (eval a X.env) = eval a X.env := by rfl)
    (hfew : ((backTo cpos (starEach [e] X.env)).all (fun x => !x.1) && (backToKw cpos (keywordEach [] X.env)).all (fun x => x.1.isSome)
      && decide ([e].length + ([] : List Keyword).length + (if ([] : List Keyword).isEmpty then 0 else 1) < 30)) = true := by rfl)
    (hline : (apos.endLine == cpos.line) = true := by rfl) (hs : starEach [e] X.env = [(false, eval e X.env)] := by rfl) :
    DE X G W (.Call (.Attribute a "index" apos) [e] [] cpos) (is (.int j)) := by
  refine ⟨fun pins s σ H Q I h => ?_⟩
  obtain ⟨c, S, kq⟩ := h
  refine wpAny_Call_method_late hbase hfew hline rfl (thn (ho.run pins s σ H _ I ⟨c, S, fun v H1 S1 e1 b1 => (⟨S1, e1, b1⟩ : StOk c G W σ H1 ∧ Same (vis c W H) (vis c W H1) ∧ Bx (rTf X.K Ps) v (vis c W H1))⟩) fun v s1 ⟨x, H1, I1, r1, S1, e1, b1⟩ => ?_)
  obtain ⟨p, o, us, rfl, hp, hc, hd, rr⟩ := b1.here
  cases r1
  have hp' := vis_sub _ _ hp
  obtain ⟨ho1, hz0, its, rv, ⟨ob, hob, hcls, n, hdat⟩⟩ := (show ObjOk X.prog X.w H1 s1.heap p (.frz o (.tup us)) from I1.hok p _ hp')
  rw [ho1] at hob
  cases hob
  refine ⟨"tuple", _, F.plainAttrs_tuple, F.slot_tuple_index, F.type_tuple_index, ⟨o, ho1, hc⟩, fun a2 e2 => (by cases e2; exact ⟨o, ho1, hd⟩), ?_⟩
  have hA := (da_cons ha da_nil hs).run cpos pins s1 σ H1 (fun us2 H2 => StOk c G W σ H2 ∧ Same (vis c W H1) (vis c W H2) ∧ Paired (fun P v => Bx P v (vis c W H2)) [P] us2) I1 ⟨c, S1, fun vs H2 S2 e2 b2 => ⟨S2, e2, b2⟩⟩
  rw [hs] at hA ⊢
  refine Calls.callWith_builtin rfl (Calls.evalArgs_plain ?_)
  refine thn hA fun us3 s2 ⟨vs, H2, I2, r2, S2, e2, b2⟩ => ?_
  obtain ⟨y, rfl, by1⟩ := bx1 b2
  obtain ⟨uy, rfl, ry⟩ := vals1 r2
  have hp2 : H2 p = some (.frz o (.tup us)) := vis_sub _ _ (e2 _ _ hp)
  obtain ⟨ho2, hz2, its2, rv2, ⟨ob2, hob2, hcls2, n2, hdat2⟩⟩ := (show ObjOk X.prog X.w H2 s2.heap p (.frz o (.tup us)) from I2.hok p _ hp2)
  rw [ho2] at hob2
  cases hob2
  have hda : DpAll X.K H2 us ds := DpAll.mono vis_sub (DpAll.mono e2 (dt_all h1 rr))
  obtain ⟨bs, r1⟩ := Dp.reads I2 d y uy (Dp.mono vis_sub (h2 _ _ by1)) ry
  have hxs : PyData.canLayAll0 ds = true := SeqAt.canLay_of_shaped sh1
  have hroom : X.A.units + 1 + min (PyData.depthAll ds) d.depth < cLine := room_in_shaped sh2 (by have := hr.un; omega)
  obtain ⟨as, h4⟩ := Dp.readsAll I2 ds _ its2 hda rv2
  have hn : its2.length = ds.length := SeqAt.ReadsAll.length ds its2 as h4
  have hmap : its2.map (SeqAt.readOf s2.heap) = ds := SeqAt.readsAll_map ds its2 as hxs h4
  have hsl := sizeLine_eq
  obtain ⟨hjd, _⟩ := List.getElem?_eq_some_iff.mp hz
  have hj : j < its2.toArray.size := by simp; omega
  have at_ : ∀ (m : Nat) (hm : m < its2.toArray.size) (z' : PyData), ds[m]? = some z' → SeqAt.readOf s2.heap its2.toArray[m] = z' := by
    intro m hm z' hz'
    have hml : m < its2.length := by simpa using hm
    rw [← hmap, List.getElem?_map, List.getElem?_eq_getElem hml] at hz'
    have e1 : SeqAt.readOf s2.heap its2[m] = z' := Option.some.inj (show some (SeqAt.readOf s2.heap its2[m]) = some z' from hz')
    simpa using e1
  obtain ⟨ocls, odd, odata, osl⟩ := o
  have hc0 : ocls = .type "tuple" := hc
  have hdat0 : odata = .seq its2.toArray n2 := hdat2
  subst hc0 hdat0
  refine call_meets PySem.F.slot_tuple_index ⟨_, ho2, rfl⟩ PySem.F.entry_tuple_index (PySem.F.args_tuple_index_2 _ _)
    (SeqAt.tuple_index2_found p its2.toArray n2 odd osl uy (fun m => if hm : m < its2.toArray.size then PyData.eqv (SeqAt.readOf s2.heap its2.toArray[m]) d else false) j hj (Nat.zero_le _) hj ?_ ?_) ⟨ho2, fun m hm => ?_, ?_⟩
  · rw [dif_pos hj, at_ j hj z hz]
    exact hzj
  · intro m hm _ hmj
    rw [dif_pos hm]
    have hmd : m < ds.length := by rw [← hn]; simpa using hm
    have hz' : ds[m]? = some ds[m] := List.getElem?_eq_getElem hmd
    rw [at_ m hm _ hz']
    exact hno m _ hmj hz'
  · rw [dif_pos hm]
    exact SeqAt.items_eqAt (vs := its2.toArray) (show ReadsAll s2.heap its2.toArray.toList ds as from h4) r1 hxs (SeqAt.canLay_of_shaped sh2) hroom _ (Array.getElem_mem hm)
  · exact ⟨.int (j : Nat), H2, I2.tok _, ⟨_, rfl⟩, kq _ H2 S2 (e1.trans e2) bx_is⟩
end
end
end SQ
end
section
set_option maxHeartbeats 4000000
namespace SQ
open PySem PySem.Spec PyProof.Rows L2
noncomputable section

/-! ### sorted(list of data) -/
open PySem.W in
def rSortD {β : Type} (K : PySem.W.Frag) (enc : β → PyData) (bs : List β) (rel : β → V → Prop) : List V → Hp → VK → Prop := fun xs H Q => ∃ p us, xs = [V.ref p] ∧ SqL K H p us ∧ Paired (fun b u => rel b u ∧ Dp K H u (enc b)) bs us ∧
  AllAlike (bs.map enc) ∧ Sortable (bs.map enc) ∧ (∀ b ∈ bs, (enc b).depth ≤ 60) ∧ ∀ l us', H l = none → Paired rel (bs.mergeSort (dataLe false enc)) us' → Q (.ref l) (upd H l (.lst us'))
theorem each_of {β : Type} {R : Value → β → Prop} {F : β → V → Prop} (h : ∀ b v u, F b v → RelV v u → R u b) : ∀ {bs : List β} {vs : List V} {us : List Value}, Paired F bs vs → Vals vs us → PySem.W.EachIs R us bs
  | _, _, _, .nil, .nil => .nil
  | _, _, _, .cons a r, .cons c s => .cons (h _ _ _ a c) (each_of h r s)
theorem of_each {β : Type} {F : β → V → Prop} : ∀ {bs : List β} {us : List Value}, PySem.W.EachIs (fun u b => ∃ v, RelV v u ∧ F b v) us bs → ∃ vs, Vals vs us ∧ Paired F bs vs
  | _, _, .nil => ⟨[], .nil, .nil⟩
  | _, _, .cons ⟨v, r, f⟩ t => let ⟨vs, a, b⟩ := of_each t; ⟨v :: vs, .cons r a, .cons f b⟩
theorem cr_sortD {X : Cx} {β : Type} {enc : β → PyData} {bs : List β} {rel : β → V → Prop} (hu : X.A.units + 62 < cLine) : CallR X (.builtin "sorted") (rSortD X.K enc bs rel) := by
  intro pins s σ H vs us Q I r h
  obtain ⟨p, xs, rfl, hs, hp, hal, hk, hd, q⟩ := h
  obtain ⟨its, rv, hl, hz⟩ := I.list hs
  rw [Vals.ref1 r]
  have hlen : bs.length = its.length := (Paired.length hp).trans rv.length
  have l2 := rv.length
  refine PySem.W.sorted_data (R := fun u b => ∃ v, RelV v u ∧ rel b v) (enc := enc) (bs := bs) hl.isList (each_of (fun b v u f r => ⟨v, r, f.1⟩) hp rv) (each_of (fun b v u f r => Dp.reads I (enc b) v u f.2 r) hp rv) hal hk (by omega)
    (fun b hb => by have := hd b hb; omega) fun out ho eo => ?_
  obtain ⟨us', rv', pr⟩ := of_each eo
  obtain ⟨ep, he'⟩ := PyProof.Rows.sortedAll_at s.heap its out.toArray
  refine ⟨.ref _, upd H (s.heap.objs.size + 1) (.lst us'), I.laid (t' := s.toks) (fun _ _ => PyProof.Rows.sortedAll_old) (Nat.le_succ _) ⟨?_, out, ep, rv', he'⟩, rfl, q _ us' (I.hok.fresh (Nat.le_succ _)) pr⟩
  rw [rv'.length]
  omega
theorem paired_imp {α β : Type} {F G : α → β → Prop} : ∀ {l : List α} {m : List β}, (∀ a b, a ∈ l → F a b → G a b) → Paired F l m → Paired G l m
  | _, _, _, .nil => .nil
  | _, _, h, .cons a r => .cons (h _ _ List.mem_cons_self a) (paired_imp (fun x y hx => h x y (List.mem_cons_of_mem _ hx)) r)
theorem paired_un {α β γ : Type} {F : β → γ → Prop} {f : α → β} : ∀ {l : List α} {m : List γ}, Paired F (l.map f) m → Paired (fun a c => F (f a) c) l m
  | [], _, .nil => .nil
  | _ :: _, _, .cons a r => .cons a (paired_un r)
theorem paired_re {α β γ : Type} {F : β → γ → Prop} {f : α → β} : ∀ {l : List α} {m : List γ}, Paired (fun a c => F (f a) c) l m → Paired F (l.map f) m
  | [], _, .nil => .nil
  | _ :: _, _, .cons a r => .cons a (paired_re r)
section
variable {X : Cx} {G : Gm} {W W' : Ow} {e a b : Expr} {es : List Expr} {P P1 P2 : VP} {Ps : List VP} {d d2 : PyData} {ds : List PyData} {pos apos cpos p : Pos} {k : Nat} {D : DEn} {rest : List Stmt}
theorem ca_sortD {β : Type} (bs : List β) (r : β → VP) (enc : β → PyData) (hr : Room k X.A) (h : ∀ b ∈ bs, Dt X.K (r b) (enc b)) (hal : PySem.W.AllAlike (bs.map enc)) (hk : PySem.W.Sortable (bs.map enc)) (hd : ∀ b ∈ bs, (enc b).depth ≤ 60) :
    CaD X W (.builtin "sorted") [rLi X.K (bs.map r)] (rLi X.K ((bs.mergeSort (PySem.W.dataLe false enc)).map r)) := by
  refine ⟨fun xs H Q => ∃ rel : β → V → Prop, rSortD X.K enc bs rel xs H Q, fun pins s σ H xs us Q I rr ⟨rel, q⟩ => cr_sortD (by have := hr.un; omega) pins s σ H xs us Q I rr q, fun c G s H vs Q S b kq => ?_⟩
  obtain ⟨v, rfl, b1⟩ := bx1 b
  obtain ⟨a, us, rfl, hq, pr⟩ := b1.here
  refine ⟨fun b u => Bx (r b) u (vis c W H), a, us, rfl, Same.lsq vis_sub hq, paired_imp (fun b u hb f => ⟨f, Dp.mono vis_sub (h b hb _ _ f)⟩) (paired_un pr), hal, hk, hd, fun l us' hl pr' => ?_⟩
  exact kq _ _ (Same.new hl) (bx_li (S.newV hl) (bxs_mono (vis_same (Same.new hl)) (paired_re pr')))

/-! ### sorted(set(list of tuples of ints)) -/
def rSetT (prog : Program) (w : World) (Xs : List (List Int)) : VP := fun v H => ∃ a L, v = .ref a ∧ H a = some (SetTO prog w a L) ∧ (∀ q ∈ L, H q.1 = some (.tup (q.2.map V.int)) ∧ q.2 ∈ Xs) ∧ ∀ x ∈ Xs, x ∈ L.map (·.2)
theorem bx_of_same {P : VP} {v : V} {H : Hp} (h : P v H) (m : ∀ H H', Same H H' → P v H → P v H') : Bx P v H := fun H' e => m H H' e h
theorem ca_setT (Xs : List (List Int)) (hr : Room k X.A) (hl : Xs.length < 64) (hc : X.calm = true := by rfl) : CaD X W (.type "set") [rLi X.K (Xs.map fun x => rTr (x.map V.int))] (rSetT X.prog X.w Xs) := ⟨_, cr_setOfT hc (by have := hr.un; omega), fun c G s H vs Q S b kq => by
  obtain ⟨v, rfl, b1⟩ := bx1 b
  obtain ⟨a, us, rfl, hq, pr⟩ := b1.here
  have key : ∀ {Xs : List (List Int)} {us : List V}, Paired (fun P u => Bx P u (vis c W H)) (Xs.map fun x => rTr (x.map V.int)) us → ∃ ks : List (Addr × List Int), us = ks.map (fun q => V.ref q.1) ∧ ks.map (·.2) = Xs ∧ ∀ q ∈ ks, vis c W H q.1 = some (.tup (q.2.map V.int)) := by
    intro Xs
    induction Xs with
    | nil => intro us pr; cases pr; exact ⟨[], rfl, rfl, fun _ h => nomatch h⟩
    | cons x Xs ih =>
      intro us pr
      cases pr with
      | cons h1 h2 =>
        obtain ⟨ks, e1, e2, e3⟩ := ih h2
        obtain ⟨t, rfl, ht⟩ := h1.here
        refine ⟨(t, x) :: ks, by rw [e1]; rfl, by rw [← e2]; rfl, fun q hq => ?_⟩
        rcases List.mem_cons.mp hq with rfl | hq
        · exact ht
        · exact e3 q hq
  obtain ⟨ks, rfl, e2, e3⟩ := key pr
  have lk : ks.length < 64 := by rw [← e2, List.length_map] at hl; exact hl
  refine ⟨a, ks, rfl, Same.lsq vis_sub hq, fun q hq => SqT.of (vis_sub _ _ (e3 q hq)), lk, fun l L hn h1 h2 => kq _ _ (Same.new hn) fun H' e' => ⟨l, L, rfl, e' _ _ (S.newV hn), fun q hq => ⟨e' _ _ (vis_same (Same.new hn) _ _ (e3 q (h1 q hq))), by rw [← e2]; exact List.mem_map.mpr ⟨q, h1 q hq, rfl⟩⟩, fun x hx => ?_⟩⟩
  rw [← e2] at hx
  obtain ⟨q, hq, rfl⟩ := List.mem_map.mp hx
  exact h2 q hq⟩
theorem paired_of_mem {α β : Type} {F : α → β → Prop} {f : β → α} : ∀ {l : List β}, (∀ b ∈ l, F (f b) b) → Paired F (l.map f) l
  | [], _ => .nil
  | b :: l, h => .cons (h b List.mem_cons_self) (paired_of_mem fun c hc => h c (List.mem_cons_of_mem _ hc))
theorem paired_mem2 {α β γ : Type} {F : α → β → Prop} {f : γ → α} {g : γ → β} : ∀ {l : List γ}, (∀ b ∈ l, F (f b) (g b)) → Paired F (l.map f) (l.map g)
  | [], _ => .nil
  | b :: l, h => .cons (h b List.mem_cons_self) (paired_mem2 fun c hc => h c (List.mem_cons_of_mem _ hc))
/-- Ys: the same tuples, each once, in the order of their codes -/
theorem ca_sortT (Xs Ys : List (List Int)) (d : Nat) (B : Int) (hd : 1 ≤ d) (hb : ∀ x ∈ Xs, x.length = d ∧ TS.Bd B x) (uniq : ∀ Zs : List (List Int), Zs.Nodup → (∀ x, x ∈ Zs ↔ x ∈ Xs) → Zs.Pairwise (fun q r => TS.code B q ≤ TS.code B r) → Zs = Ys) (hc : X.calm = true := by rfl) :
    CaD X W (.builtin "sorted") [rSetT X.prog X.w Xs] (rLi X.K (Ys.map fun x => rTr (x.map V.int))) := ⟨_, cr_sortedT hc, fun c G s H vs Q S b kq => by
  obtain ⟨v, rfl, b1⟩ := bx1 b
  obtain ⟨a, L, rfl, ha, hL, hall⟩ := b1.here
  refine ⟨a, L, d, B, rfl, vis_sub _ _ ha, fun q hq => SqT.of (vis_sub _ _ (hL q hq).1), hd, fun q hq => hb _ (hL q hq).2, fun L' p h1 h2 h3 h4 hn => ?_⟩
  have e : L'.map (·.2) = Ys := uniq _ h2 (fun x => ⟨fun hx => ?_, fun hx => ?_⟩) (List.pairwise_map.mpr h4)
  · subst e
    refine kq _ _ (Same.new hn) (bx_li (S.newV hn) ?_)
    rw [List.map_map]
    exact paired_mem2 fun q hq => bx_tr (vis_same (Same.new hn) _ _ (hL q (h1.mem_iff.mp hq)).1)
  · obtain ⟨q, hq, rfl⟩ := List.mem_map.mp hx
    exact (hL q (h1.mem_iff.mp hq)).2
  · obtain ⟨q, hq, rfl⟩ := List.mem_map.mp (hall x hx)
    exact List.mem_map.mpr ⟨q, h1.mem_iff.mpr hq, rfl⟩⟩

/-! ### lists that are owned -/
def putO : Ow → Addr → OC → Ow
  | [], _, _ => []
  | p :: W, q, C => if p.1 = q then (q, C) :: W else p :: putO W q C
theorem putO_keys : ∀ {W : Ow} {q : Addr} {C : OC}, (putO W q C).map (·.1) = W.map (·.1)
  | [], _, _ => rfl
  | p :: W, q, C => by
    unfold putO
    by_cases h : p.1 = q
    · rw [if_pos h]; subst h; rfl
    · rw [if_neg h, List.map_cons, List.map_cons, putO_keys]
theorem putO_mem : ∀ {W : Ow} {q b : Addr} {C D : OC}, (W.map (·.1)).Nodup → (b, D) ∈ putO W q C → (b ≠ q ∧ (b, D) ∈ W) ∨ (b = q ∧ D = C ∧ inO W q)
  | [], _, _, _, _, _, h => nomatch h
  | p :: W, q, b, C, D, nd, h => by
    unfold putO at h
    by_cases e : p.1 = q
    · rw [if_pos e] at h
      rcases List.mem_cons.mp h with h1 | h1
      · cases h1
        exact .inr ⟨rfl, rfl, by subst e; exact List.mem_cons_self⟩
      · refine .inl ⟨?_, List.mem_cons_of_mem _ h1⟩
        rintro rfl
        have n := (List.nodup_cons.mp nd).1
        exact n (List.mem_map.mpr ⟨_, h1, e.symm⟩)
    · rw [if_neg e] at h
      rcases List.mem_cons.mp h with h | h
      · subst h
        exact .inl ⟨e, List.mem_cons_self⟩
      · rcases putO_mem (List.nodup_cons.mp nd).2 h with ⟨x, y⟩ | ⟨x, y, z⟩
        · exact .inl ⟨x, List.mem_cons_of_mem _ y⟩
        · exact .inr ⟨x, y, List.mem_cons_of_mem _ z⟩
theorem StOk.put {c : Ct} {s : St} {H : Hp} {q : Addr} {C : OC} {o : HO} (S : StOk c G W s H) (ha : inO W q) (hC : ∀ H', Same (vis c W H) H' → C o H') : StOk c G (putO W q C) s (upd H q o) ∧ Same (vis c W H) (vis c (putO W q C) (upd H q o)) := by
  refine ⟨S.change putO_keys.symm ha fun b D hb => ?_, ?_⟩
  · rcases putO_mem S.nd hb with h | ⟨h1, h2, _⟩
    · exact .inl h
    · subst h2
      exact .inr ⟨h1, hC⟩
  · rw [vis_perm (W := putO W q C) (W' := W) putO_keys, vis_upd ha]
    exact Same.refl _

/-! ### values that are new: their object is owned -/
def tN (G : Gm) (W : Ow) (C : OC) : TE := fun s H Q => ∃ c, StOk c G W s H ∧ ∀ a H', StOk c G ((a, C) :: W) s H' → Same (vis c W H) (vis c ((a, C) :: W) H') → ¬ c.hd a → Q (.ref a) H'
abbrev DN (X : Cx) (G : Gm) (W : Ow) (e : Expr) (C : OC) : Prop := PE X e (tN G W C)
theorem StOk.newN {c : Ct} {s : St} {H : Hp} {q : Addr} {C : OC} {o : HO} (S : StOk c G W s H) (n : H q = none) (h : ∀ H', Same (vis c W H) H' → C o H') : StOk c G ((q, C) :: W) s (upd H q o) ∧ Same (vis c W H) (vis c ((q, C) :: W) (upd H q o)) := by
  refine ⟨S.newO n h, hid_le fun b u nb hb => ?_⟩
  have ne : b ≠ q := by rintro rfl; rw [n] at hb; cases hb
  refine ⟨fun z => ?_, by rw [upd_ne ne]; exact hb⟩
  rcases z with z | z
  · exact nb (.inl z)
  · rcases List.mem_cons.mp z with z | z
    · exact ne z
    · exact nb (.inr z)
theorem dn_lst (h : DA X G W es Ps) (hl : Ps.length ≤ 100000 := by exact Nat.le_of_ble_eq_true rfl) : DN X G W (.List es pos) (oLi Ps) :=
  PE.to (pe_lst h) fun s H Q ⟨c, S, kq⟩ => ⟨c, S, fun vs H1 S1 e1 b1 => ⟨by rw [← Paired.length b1]; exact sz_of hl, fun p np => by
    obtain ⟨a1, a2⟩ := S1.newN np (C := oLi Ps) (o := .lst vs) fun H' e' => ⟨vs, rfl, bxs_mono e' b1⟩
    exact kq p _ a1 (e1.trans a2) (S1.fresh np).1⟩⟩
/-- a new object, held -/
theorem dss_setN (i : Nat) {x : Str} {pos' : Pos} {C : OC} (he : DN X G W e C) (h : ∀ q, DSs X (G.set i (some (is (.ref q)))) ((q, C) :: W) rest D) (hN : X.N.Nodup) (hi : X.N[i]? = some x := by rfl) (hx : Loc X.env.scope x := by first | exact .inl rfl | exact .inr rfl)
    (hs : swapsWith e (some (.Name x pos')) pos.line X.env = pure false := by rfl) (hf : X.fn x = true ∨ X.env.scope.names.lookup x = some .local := by first | exact .inl rfl | exact .inr rfl) : DSs X G W (.Assign [.Name x pos'] e pos :: rest) D :=
  dss_cons (PS.to (ps_set hN hi hx he hs hf) fun E s H ⟨c, S, eo⟩ => ⟨c, S, fun a H' S' e' _ => eo.nx _ _ _ H' (h a) (S'.setE (P := is (.ref a)) i bx_is)⟩)
/-- return of a new object: a plain value from then on -/
theorem de_ofN {C : OC} (h : DN X G W e C) (k : ∀ a u H, u = u → (∀ H', Same H H' → C u H') → H a = some u → Bx P (.ref a) H) : DE X G W e P := PE.to h fun s H Q ⟨c, S, q⟩ => ⟨c, S, fun a H' S' e' hh => by
  obtain ⟨u, hu, hc⟩ := S'.owned List.mem_cons_self
  have sv : Same (vis c ((a, C) :: W) H') (vis c W H') := vis_drop fun b z => List.mem_cons_of_mem _ z
  have n2 := (List.nodup_cons.mp S'.nd).1
  have Sd := S'.drop (W' := W) (fun _ h => List.mem_cons_of_mem _ h) (List.nodup_cons.mp S'.nd).2
  exact q _ H' Sd (e'.trans sv) (k a u _ rfl (fun H2 e2 => hc H2 (sv.trans e2)) (hid_some.mpr ⟨fun z => z.elim hh n2, hu⟩))⟩

/-! ### owned lists: append, reading -/
theorem Paired.snoc {α β : Type} {F : α → β → Prop} {l : List α} {m : List β} {a : α} {b : β} (h : Paired F l m) (x : F a b) : Paired F (l ++ [a]) (m ++ [b]) := paired_app h (.cons x .nil)
theorem mem_of_owned {c : Ct} {s : St} {H : Hp} {q : Addr} {Qs : List VP} (S : StOk c G W s H) (hq : (q, oLi Qs) ∈ W) : ∃ vs, H q = some (.lst vs) ∧ Paired (fun P v => Bx P v (vis c W H)) Qs vs := by
  obtain ⟨u, hu, hc⟩ := S.owned hq
  obtain ⟨vs, rfl, r⟩ := hc _ (Same.refl _)
  exact ⟨vs, hu, r⟩
/-- q.append(e), q owned -/
theorem dx_append {q : Addr} {Qs : List VP} (hq : (q, oLi Qs) ∈ W) (ho : DE X G W a (is (.ref q))) (ha : DE X G W e P) (hl : Qs.length < 100000)
    (hbase : attributeBase a "append" X.env (eval a X.env) = eval a X.env := by rfl)
    (hfew : ((backTo cpos (starEach [e] X.env)).all (fun x => !x.1) && (backToKw cpos (keywordEach [] X.env)).all (fun x => x.1.isSome)
      && decide ([e].length + ([] : List Keyword).length + (if ([] : List Keyword).isEmpty then 0 else 1) < 30)) = true := by rfl)
    (hline : (apos.endLine == cpos.line) = true := by rfl) (hs : starEach [e] X.env = [(false, eval e X.env)] := by rfl) :
    DX X G W (putO W q (oLi (Qs ++ [P]))) (.Call (.Attribute a "append" apos) [e] [] cpos) (is .non) :=
  PE.to (pe_bm PySem.F.plainAttrs_list PySem.F.slot_list_append PySem.F.type_list_append mt_append ho (da_cons ha da_nil hs) hbase hfew hline hs rfl) fun s H Q ⟨c, S, kq⟩ => ⟨c, S, fun v H1 S1 e1 b1 => by
    cases b1.eq
    obtain ⟨us, hu, _⟩ := mem_of_owned S1 hq
    refine ⟨.inl ⟨rfl, us, SqL.of hu⟩, c, S1, fun vs H2 S2 e2 b2 => ?_⟩
    obtain ⟨y, rfl, by1⟩ := bx1 b2
    obtain ⟨ws, hw, rw2⟩ := mem_of_owned S2 hq
    refine ⟨q, ws, y, rfl, rfl, hw, ?_, ?_⟩
    · rw [← Paired.length rw2]
      exact Nat.lt_of_lt_of_le hl (by decide)
    · obtain ⟨a1, a2⟩ := S2.put (q := q) (C := oLi (Qs ++ [P])) (o := .lst (ws ++ [y])) (inO.mem hq) fun H' e' => ⟨_, rfl, Paired.snoc (bxs_mono e' rw2) (by1.mono e')⟩
      exact kq .non _ a1 ((e1.trans e2).trans a2) bx_is⟩
/-- q.append(e), e a new object -/
theorem dx_appendN {q : Addr} {Qs : List VP} {C : OC} {st2 : DEn} {pos2 : Pos} (hq : (q, oLi Qs) ∈ W) (ho : DE X G W a (is (.ref q))) (ha : DN X G W e C) (hl : Qs.length < 100000)
    (hbase : attributeBase a "append" X.env (eval a X.env) = eval a X.env := by rfl)
    (hfew : ((backTo cpos (starEach [e] X.env)).all (fun x => !x.1) && (backToKw cpos (keywordEach [] X.env)).all (fun x => x.1.isSome)
      && decide ([e].length + ([] : List Keyword).length + (if ([] : List Keyword).isEmpty then 0 else 1) < 30)) = true := by rfl)
    (hline : (apos.endLine == cpos.line) = true := by rfl) (hs : starEach [e] X.env = [(false, eval e X.env)] := by rfl)
    (h : ∀ r, DSs X G (putO ((r, C) :: W) q (oLi (Qs ++ [is (.ref r)]))) rest D) (hsw : swapsWith (.Call (.Attribute a "append" apos) [e] [] cpos) none pos2.line X.env = pure false := by rfl) :
    DSs X G W (.Expr (.Call (.Attribute a "append" apos) [e] [] cpos) pos2 :: rest) D := by
  have hp : PA X [e] (fun s H Q => ∃ c, StOk c G W s H ∧ ∀ r H', StOk c G ((r, C) :: W) s H' → Q [.ref r] H') := PA.to (pa_cons ha pa_nil hs) fun s H Q ⟨c, S, kq⟩ => ⟨c, S, fun r H' S' e' _ => kq r H' S'⟩
  refine dss_cons (PS.to (ps_expr (pe_bm PySem.F.plainAttrs_list PySem.F.slot_list_append PySem.F.type_list_append mt_append ho hp hbase hfew hline hs rfl) hsw) fun E s H ⟨c, S, eo⟩ => ⟨c, S, fun v H1 S1 e1 b1 => ?_⟩)
  cases b1.eq
  obtain ⟨us, hu, _⟩ := mem_of_owned S1 hq
  refine ⟨.inl ⟨rfl, us, SqL.of hu⟩, c, S1, fun r H2 S2 => ?_⟩
  obtain ⟨ws, hw, rw2⟩ := mem_of_owned S2 (List.mem_cons_of_mem _ hq)
  refine ⟨q, ws, .ref r, rfl, rfl, hw, ?_, ?_⟩
  · rw [← Paired.length rw2]
    exact Nat.lt_of_lt_of_le hl (by decide)
  · obtain ⟨a1, a2⟩ := S2.put (q := q) (C := oLi (Qs ++ [is (.ref r)])) (o := .lst (ws ++ [.ref r])) (inO.mem (List.mem_cons_of_mem _ hq)) fun H' e' => ⟨_, rfl, Paired.snoc (bxs_mono e' rw2) bx_is⟩
    exact eo.nx _ _ _ _ (h r) a1
/-- len of an owned list -/
theorem de_lenO {q : Addr} {Qs : List VP} (hq : (q, oLi Qs) ∈ W) (hm : X.mg "len" = none) (ha : DA X G W [e] [is (.ref q)]) (hg : Gl X "len" := by rfl)
    (he : starEach [e] X.env = [(false, eval e X.env)] := by rfl) : DE X G W (.Call (.Name "len" p) [e] [] pos) (is (.int Qs.length)) :=
  PE.to (pe_callB call_len hg hm boot_len ha (by decide) (by decide) he rfl) fun s H Q ⟨c, S, kq⟩ => ⟨c, S, fun vs H1 S1 e1 b1 => by
    obtain ⟨y, rfl, by1⟩ := bx1 b1
    cases by1.eq
    obtain ⟨ws, hw, r⟩ := mem_of_owned S1 hq
    refine ⟨_, _, rfl, .inl ⟨ws, SqL.of hw, rfl⟩, ?_⟩
    have l := Paired.length r
    rw [← l]
    exact kq _ H1 S1 e1 bx_is⟩
/-- q[i] -/
theorem de_ixO {q : Addr} {Qs : List VP} {i : Int} (hq : (q, oLi Qs) ∈ W) (ha : DE X G W a (is (.ref q))) (hb : DE X G W b (is (.int i))) (h : atI Qs i = some P) (hs : PlainIx b := by exact fun _ _ => rfl) : DE X G W (.Subscript a b pos) P :=
  PE.to (pe_ix (ta := tD G W W (is (.ref q))) (tb := tD G W W (is (.int i))) ix_list ha hb hs) fun s H Q ⟨c, S, kq⟩ => ⟨c, S, fun v1 H1 S1 e1 b1 => ⟨c, S1, fun v2 H2 S2 e2 b2 => by
    cases b1.eq
    cases b2.eq
    obtain ⟨ws, hw, r⟩ := mem_of_owned S2 hq
    obtain ⟨v, hv, bv⟩ := paired_atI r h
    exact ⟨q, ws, i, v, rfl, rfl, SqL.of hw, hv, kq v H2 S2 (e1.trans e2) bv⟩⟩⟩
/-- an owned list is let go: a plain list from then on -/
theorem li_of {u : HO} {H : Hp} {q : Addr} (hc : ∀ H', Same H H' → oLi Ps u H') (h : H q = some u) : Bx (rLi X.K Ps) (.ref q) H := by
  obtain ⟨vs, rfl, r⟩ := hc _ (Same.refl _)
  exact bx_li h r
/-- let go what stands in slot i -/
theorem dss_free {i : Nat} {q : Addr} {C : OC} {W' : Ow} (hG : G[i]? = some (some (is (.ref q)))) (hq : (q, C) ∈ W) (hs : ∀ p ∈ W', p ∈ W) (nq : ¬ inO W' q) (nd : (W.map (·.1)).Nodup → (W'.map (·.1)).Nodup) (k : ∀ u H, (∀ H', Same H H' → C u H') → H q = some u → Bx P (.ref q) H)
    (h : DSs X (G.set i (some P)) W' rest D) : DSs X G W rest D := ⟨fun pins s σ H E I ⟨c, S, eo⟩ => by
  obtain ⟨v, e, z⟩ := S.env.2 i _ hG
  cases z.eq
  obtain ⟨u, hu, hc⟩ := S.owned hq
  have hm : ∀ b, inO W' b → inO W b := fun b q => let ⟨C, h⟩ := q.ex; inO.mem (hs _ h)
  have hs2 : σ.set i (some (.ref q)) = σ := by
    apply List.ext_getElem?
    intro j
    by_cases ij : i = j
    · subst ij
      rw [List.getElem?_set_self (List.getElem?_eq_some_iff.mp e).1, e]
    · rw [List.getElem?_set_ne ij]
  have S2 := (S.drop hs (nd S.nd)).setE (P := P) i (k u _ (fun H2 e2 => hc H2 ((vis_drop hm).trans e2)) (hid_some.mpr ⟨fun z => z.elim (S.dj q (inO.mem hq)) nq, hu⟩))
  rw [hs2] at S2
  exact h.run pins s σ H E I ⟨c, S2, eo⟩⟩
end
end
end SQ
end
section
set_option maxHeartbeats 4000000
namespace SQ
open PySem PySem.Spec PyProof.Rows L2
noncomputable section

/-! ### enumerate(tuple) -/
theorem meets_enumerate_newT (l : Addr) (items : Array Value) :
    Meets (Builtin.«enumerate.__new__» ⟨[.type "enumerate", .ref l], []⟩) (fun _ R s => s.heap.IsTuple l items ∧
      R (.ok (.ret (.ref (s.heap.push { cls := .type "tuple_iterator", data := .fields #[.ref l, .int 0 0] }).objs.size)))
        { s with heap := (s.heap.push { cls := .type "tuple_iterator", data := .fields #[.ref l, .int 0 0] }).push { cls := .type "enumerate", data := .fields #[.none, .bool false, .ref s.heap.objs.size, rawInt 0, .none, .none] } }) :=
  .of_wp fun prog w A R s h => by
    obtain ⟨hp, g, d, tk, os⟩ := s; obtain ⟨hl, h⟩ := h
    have hsub := sub_enumerate
    have q1 : ∀ {A' : Around} {E : Value → Shared → Prop} {Q : Value → Shared → Prop}, Q (.ref hp.objs.size) ⟨hp.push { cls := .type "tuple_iterator", data := .fields #[.ref l, .int 0 0] }, g, d, tk, os⟩ → wpAny (model prog w) A' (pyIter (.ref l)) Q E ⟨hp, g, d, tk, os⟩ :=
      fun q => (PySem.begins_tuple l items).iter prog w _ _ ⟨hp, g, d, tk, os⟩ _ hl q
    wp_walk using q1
    refine wpAny_stack_any fun st => wpAny_pure ?_
    split
    · rename_i c _ _ _ _ _
      cases (c == Value.type "enumerate")
      · wp_walk using q1
        exact ⟨_, rfl, h⟩
      · wp_walk using q1
        exact ⟨_, rfl, h⟩
    · wp_walk using q1
      exact ⟨_, rfl, h⟩
theorem call_enumerate_tuple {prog : Program} {w : World} {A : Around} {E : Value → Shared → Prop} {s : Shared} {l : Addr} {items : Array Value} {Q : Value → Shared → Prop} (hL : s.heap.IsTuple l items)
    (h : ∀ h', IsEnum h' (s.heap.objs.size + 1) s.heap.objs.size 0 .none → h'.IsTupleIter s.heap.objs.size l 0 → h'.objs.size = s.heap.objs.size + 2 →
      (∀ b o, s.heap.get? b = some o → h'.get? b = some o) → Q (.ref (s.heap.objs.size + 1)) { s with heap := h' }) :
    wpAny (model prog w) A (call (.type "enumerate") [.ref l]) Q E s := by
  refine callType_new F.called_enumerate (by decide) (F.typeCall_enumerate_1 _) (F.newCall_enumerate_1 _) (fun obj => F.args_object_init_2 obj _) F.entry_enumerate_new
    (meets_enumerate_newT l items) ⟨hL, ?_⟩
  have hz : (s.heap.push { cls := .type "tuple_iterator", data := .fields #[.ref l, .int 0 0] }).objs.size = s.heap.objs.size + 1 := Heap.size_push ..
  show _ ∧ _
  rw [hz]
  have he : IsEnum ((s.heap.push { cls := .type "tuple_iterator", data := .fields #[.ref l, .int 0 0] }).push
      { cls := .type "enumerate", data := .fields #[.none, .bool false, .ref s.heap.objs.size, rawInt 0, .none, .none] }) (s.heap.objs.size + 1) s.heap.objs.size 0 .none := by
    have := Heap.get?_push_size (s.heap.push { cls := .type "tuple_iterator", data := .fields #[.ref l, .int 0 0] })
      (o := { cls := .type "enumerate", data := .fields #[.none, .bool false, .ref s.heap.objs.size, rawInt 0, .none, .none] }) rfl
    rw [hz] at this; exact this
  refine ⟨⟨_, he, rfl⟩, h _ he ⟨_, Heap.get?_push_of_some _ (Heap.get?_push_size _ rfl), rfl, rfl⟩ (by rw [Heap.size_push, hz]) fun b o x => Heap.get?_push_of_some _ (Heap.get?_push_of_some _ x)⟩
def IteT (K : PySem.W.Frag) (a : Addr) : It :=
  ⟨fun i H => ∃ (xs : List V) (x : V), SqT K H a xs ∧ xs[i]? = some x, fun i H v H' => ∃ T x, v = .ref T ∧ H T = none ∧ H' = upd H T (.tup [.int (i : Nat), x]) ∧ ∀ xs, SqT K H a xs → xs[i]? = some x, fun i H => ∃ xs : List V, SqT K H a xs ∧ xs.length ≤ i⟩
theorem turn_enumT {P : Program} {w : World} {K : PySem.W.Frag} {elts : List Expr} {kk : Nat} {tpos : Pos} (a e it : Addr) (hae : a ≠ e) (hai : a ≠ it) :
    Turn P w K (.Tuple elts kk tpos) (IteT K a) [e, it] e (fun i h => (∃ old, IsEnum h e it ((i : Nat) : Int) old) ∧ h.IsTupleIter it a i ∧ e ≠ it) where
  mem := by simp
  obj := fun i h st b hb => by
    obtain ⟨⟨old, he⟩, ⟨o, ho, hc, hd⟩, _⟩ := st
    have e' : b = e ∨ b = it := by simpa using hb
    rcases e' with z | z
    · rw [z]; exact ⟨_, he, fun v q => nomatch q⟩
    · rw [z]; exact ⟨o, ho, fun v q => by rw [hd] at q; cases q⟩
  keep := fun i h h' st k => let ⟨⟨old, he⟩, hi, hne⟩ := st; ⟨⟨old, k e (by simp) _ he⟩, hi.at fun o q => k it (by simp) o q, hne⟩
  item := by
    intro X hP hw hK hc i pins s σ H E I hf st hg
    subst hP hw hK
    obtain ⟨⟨old, he⟩, hit, hne⟩ := st
    obtain ⟨xs, x, hq, hx⟩ := hg
    obtain ⟨its, rv, p, hz⟩ := I.tuple hq
    obtain ⟨u, hu, ru⟩ := rv.get hx
    have hel : e < s.heap.objs.size := Heap.lt_size he
    have hil : it < s.heap.objs.size := by obtain ⟨_, q, _⟩ := hit; exact Heap.lt_size q
    have D := PySem.Draws.tuple (prog := X.prog) (w := X.w) (A := X.A.in1) (I.ok.hd hc) it a hai its.toArray
    have hlt : i < its.toArray.size := by
      have := (List.getElem?_eq_some_iff.mp hu).1
      simpa using this
    refine wpAny_pyNext_enum_itemD D he ⟨hit, p⟩ hlt hne (by intro z; rcases List.mem_cons.mp z with z | z; exact hne z; exact hae (List.mem_singleton.mp z).symm) fun x' h' tk hPx ho hst' hT hsz hk => ?_
    have ex : x' = u := by
      have hu2 : its.toArray[i]? = some u := by simpa using hu
      rw [hu2] at hPx
      exact (Option.some.inj hPx).symm
    subst ex
    have hit' := hst'.1
    refine ⟨_, rfl, wpAny_letOwnedTupleGo_enum (s := { s with heap := h', toks := tk + 1 }) ho fun h'' he' sb => ?_⟩
    have hT2 : h''.get? s.heap.objs.size = some { cls := .type "tuple", data := .seq #[.int i tk, x'] } := (sb.2 _ (Nat.ne_of_gt hel)).trans hT
    have new : ObjOk X.prog X.w (upd H s.heap.objs.size (.tup [.int (i : Nat), x])) h'' s.heap.objs.size (.tup [.int (i : Nat), x]) :=
      ⟨by show 2 ≤ sizeLine; decide, [.int i tk, x'], .cons ⟨_, rfl⟩ (.cons ru .nil), ⟨_, hT2, rfl, _, rfl⟩⟩
    have I1 : Inv X pins σ (upd H s.heap.objs.size (.tup [.int (i : Nat), x])) { s with heap := h'', toks := tk + 1 } :=
      I.turnedNew (ch := [e, it]) (fun b ob hb q => (sb.2 b (fun z => hb (by simp [z]))).trans (hk b ob (fun z => hb (by simp [z])) (fun z => hb (by simp [z])) q)) hf (Nat.le_refl _) new
    refine ⟨.ref s.heap.objs.size, _, I1, rfl, ⟨_, x, rfl, I.hok.fresh (Nat.le_refl _), rfl, fun ys hy => by rw [I.tuple_inj hy hq]; exact hx⟩, ⟨⟨x', ?_⟩, hit'.at fun o q => (sb.2 it (Ne.symm hne)).trans q, hne⟩, fun b hb => ?_⟩
    · have e1 : ((i + 1 : Nat) : Int) = (i : Int) + 1 := by omega
      rw [e1]; exact he'
    · have hb' : b < s.heap.objs.size := by
        have e' : b = e ∨ b = it := by simpa using hb
        rcases e' with z | z
        · rw [z]; exact hel
        · rw [z]; exact hil
      rw [upd_ne (Nat.ne_of_lt hb')]
      exact (hf b hb).1
  done := by
    intro X hP hw hK hc i pins s σ H E I hf st hg
    subst hP hw hK
    obtain ⟨⟨old, he⟩, hit, hne⟩ := st
    obtain ⟨xs, hq, hx⟩ := hg
    obtain ⟨its, rv, p, hz⟩ := I.tuple hq
    obtain ⟨f0, f1, f2, f3, f4, f5⟩ := hf it (by simp)
    have hl := rv.length
    have hT : s.TypeIs (.ref e) "enumerate" := ⟨_, he, rfl⟩
    unfold pyNext
    refine wpAny_bind (wpAny_attempt (wpAny_callSpecial?_slot (name := Str.ofString "__next__") hT F.slot_enumerate_next
      (wpAny_call_entry F.slot_enumerate_next hT F.entry_enumerate_next ?_ (F.args_enumerate_next_1 _))))
    show wpAny _ _ (field (.ref e) 2 >>= _) _ _ _
    refine wpAny_bind (wpAny_field he rfl (x := .ref it) rfl ?_)
    refine wpAny_bind (wpAny_nextOf_tuple_end (I.ok.hd hc) hit p (by simp; omega) fun h' x he' hx' => ?_)
    obtain ⟨o, ho, hc⟩ := hx'
    refine wpAny_bind (wpAny_isInstance (T := "StopIteration") (b := true) ⟨o, ho, hc⟩ isSubtype_stop ?_)
    exact wpAny_pure ⟨rfl, I.turned (t' := s.toks) (fun b o hb q => he' b o hb q) f0 f1 f3 f4 f5⟩
  self := fun A i s Q E st h => let ⟨⟨_, he⟩, _⟩ := st; wpAny_pyIter_enum he h
def iEnumT (K : PySem.W.Frag) (ta : TA) : TI := fun σ H R => ta σ H fun vs H1 => ∃ a xs, vs = [.ref a] ∧ SqT K H1 a xs ∧ R (IteT K a) H1
theorem pi_enumT {X : Cx} {e : Expr} {ta : TA} {p pos tpos : Pos} {elts : List Expr} {kk : Nat} (hg : Gl X "enumerate") (hm : X.mg "enumerate" = none) (ha : PA X [e] ta) (hs : starEach [e] X.env = [(false, eval e X.env)] := by rfl) :
    PI X (.Tuple elts kk tpos) (.Call (.Name "enumerate" p) [e] [] pos) (iEnumT X.K ta) := by
  refine ⟨fun pins s σ H R I h => ?_⟩
  refine Call_ (ld_blt I hg hm boot_enumerate (PyProof.Rows.callWith_type1 (thn (ha.run pos pins s σ H _ I h) fun us s1 ⟨vs, H1, I1, r1, q1⟩ => ?_) hs rfl))
  obtain ⟨a, xs, ex, hq, q⟩ := q1
  subst ex
  cases r1 with
  | cons r rr =>
    cases rr
    cases r
    obtain ⟨its, rv, p', hz⟩ := I1.tuple hq
    have hal : a < s1.heap.objs.size := p'.lt
    refine call_enumerate_tuple p' fun h' he hit hsz hk => wpAny_pyIter_enum he ?_
    have I2 : Inv X pins σ H1 { s1 with heap := h' } := I1.kept (t' := s1.toks) hk
    refine ⟨s1.heap.objs.size + 1, [s1.heap.objs.size + 1, s1.heap.objs.size], _, _, H1, rfl, I2, turn_enumT a (s1.heap.objs.size + 1) s1.heap.objs.size (Nat.ne_of_lt (Nat.lt_succ_of_lt hal)) (Nat.ne_of_lt hal), ⟨⟨.none, he⟩, hit, Nat.succ_ne_self _⟩, fun b hb => ?_, q⟩
    have e' : b = s1.heap.objs.size + 1 ∨ b = s1.heap.objs.size := by simpa using hb
    have hle : s1.heap.objs.size ≤ b := by
      rcases e' with z | z
      · rw [z]; exact Nat.le_add_right _ _
      · rw [z]; exact Nat.le_refl _
    exact I1.fpOk hle (I1.hok.fresh hle)

/-! ### as rules of the calculus -/
section
variable {X : Cx} {G : Gm} {W : Ow} {e a b : Expr} {P : VP} {Ps Qs : List VP} {pos p tpos : Pos} {elts : List Expr} {kk : Nat}
def enP (K : PySem.W.Frag) (Ps : List VP) : List VP := Ps.mapIdx fun i P => rTu K [is (.int i), P]
theorem enP_at {K : PySem.W.Frag} {i : Nat} {P : VP} (h : (enP K Ps)[i]? = some P) : ∃ P0, Ps[i]? = some P0 ∧ P = rTu K [is (.int i), P0] := by
  unfold enP at h
  rw [List.getElem?_mapIdx] at h
  cases e : Ps[i]? with
  | none => rw [e] at h; cases h
  | some P0 => rw [e] at h; cases h; exact ⟨P0, rfl, rfl⟩
theorem iter_enum {Hb : Hp} {K : PySem.W.Frag} {q : Addr} {vs : List V} (hq : Hb q = some (.lst vs)) (r : Paired (fun P u => Bx P u Hb) Ps vs) : IterOk Hb (Ite K q) (enP K Ps) := by
  refine ⟨fun i P H hP e => ?_, fun H e => ⟨vs, Same.lsq e hq, ?_⟩⟩
  · obtain ⟨P0, h0, rfl⟩ := enP_at hP
    obtain ⟨u, hu, bu⟩ := paired_at r h0
    refine ⟨⟨vs, u, Same.lsq e hq, hu⟩, fun x H' ⟨T, y, e1, e2, e3, e4⟩ => ?_⟩
    subst e1 e3
    have hy := e4 vs (Same.lsq e hq)
    rw [hu] at hy
    cases hy
    refine ⟨Same.new e2, fun Hv ev k => ?_⟩
    exact (bx_tu (SqT.of (k T _ e2 upd_same)) (.cons bx_is (.cons (bu.mono ev) .nil))).here
  · unfold enP
    rw [List.length_mapIdx, Paired.length r]
    exact Nat.le_refl _
theorem di_enum (hm : X.mg "enumerate" = none) (ha : DE X G W e (rLi X.K Ps)) (hg : Gl X "enumerate" := by rfl) (hs : starEach [e] X.env = [(false, eval e X.env)] := by rfl) : DI X G W (.Tuple elts kk tpos) (.Call (.Name "enumerate" p) [e] [] pos) (enP X.K Ps) :=
  PI.to (pi_enum hg hm (da_cons ha da_nil hs) hs) fun s H R ⟨c, S, k⟩ => ⟨c, S, fun vs H' S' e' b => by
    obtain ⟨v, rfl, b1⟩ := bx1 b
    obtain ⟨q, us, rfl, hq, r⟩ := b1.here
    exact ⟨q, us, rfl, Same.lsq vis_sub hq, k _ H' S' e' (iter_enum hq r)⟩⟩
theorem iter_enumT {Hb : Hp} {K : PySem.W.Frag} {q : Addr} {vs : List V} (hq : SqT K Hb q vs) (r : Paired (fun P u => Bx P u Hb) Ps vs) : IterOk Hb (IteT K q) (enP K Ps) := by
  refine ⟨fun i P H hP e => ?_, fun H e => ⟨vs, Same.t e hq, ?_⟩⟩
  · obtain ⟨P0, h0, rfl⟩ := enP_at hP
    obtain ⟨u, hu, bu⟩ := paired_at r h0
    refine ⟨⟨vs, u, Same.t e hq, hu⟩, fun x H' ⟨T, y, e1, e2, e3, e4⟩ => ?_⟩
    subst e1 e3
    have hy := e4 vs (Same.t e hq)
    rw [hu] at hy
    cases hy
    refine ⟨Same.new e2, fun Hv ev k => ?_⟩
    exact (bx_tu (SqT.of (k T _ e2 upd_same)) (.cons bx_is (.cons (bu.mono ev) .nil))).here
  · unfold enP
    rw [List.length_mapIdx, Paired.length r]
    exact Nat.le_refl _
theorem di_enumT (hm : X.mg "enumerate" = none) (ha : DE X G W e (rTu X.K Ps)) (hg : Gl X "enumerate" := by rfl) (hs : starEach [e] X.env = [(false, eval e X.env)] := by rfl) : DI X G W (.Tuple elts kk tpos) (.Call (.Name "enumerate" p) [e] [] pos) (enP X.K Ps) :=
  PI.to (pi_enumT hg hm (da_cons ha da_nil hs) hs) fun s H R ⟨c, S, k⟩ => ⟨c, S, fun vs H' S' e' b => by
    obtain ⟨v, rfl, b1⟩ := bx1 b
    obtain ⟨q, us, rfl, hq, r⟩ := b1.here
    exact ⟨q, us, rfl, Same.t vis_sub hq, k _ H' S' e' (iter_enumT hq r)⟩⟩
/-- zip of two lists -/
def zpP (K : PySem.W.Frag) (Ps Qs : List VP) : List VP := List.zipWith (fun P Q => rTu K [P, Q]) Ps Qs
theorem iter_zip {Hb : Hp} {K : PySem.W.Frag} {q q2 : Addr} {vs vs2 : List V} (hq : Hb q = some (.lst vs)) (hq2 : Hb q2 = some (.lst vs2)) (r : Paired (fun P u => Bx P u Hb) Ps vs) (r2 : Paired (fun P u => Bx P u Hb) Qs vs2) : IterOk Hb (Itz K q q2) (zpP K Ps Qs) := by
  refine ⟨fun i P H hP e => ?_, fun H e => ⟨vs, vs2, Same.lsq e hq, Same.lsq e hq2, ?_⟩⟩
  · unfold zpP at hP
    rw [List.getElem?_zipWith] at hP
    cases h1 : Ps[i]? with
    | none => rw [h1] at hP; cases hP
    | some P1 =>
      cases h2 : Qs[i]? with
      | none => rw [h1, h2] at hP; cases hP
      | some P2 =>
        rw [h1, h2] at hP
        cases hP
        obtain ⟨u, hu, bu⟩ := paired_at r h1
        obtain ⟨u2, hu2, bu2⟩ := paired_at r2 h2
        refine ⟨⟨vs, vs2, u, u2, Same.lsq e hq, Same.lsq e hq2, hu, hu2⟩, fun x H' ⟨T, y, y2, e1, e2, e3, e4, e5⟩ => ?_⟩
        subst e1 e3
        have hy := e4 vs (Same.lsq e hq)
        rw [hu] at hy
        cases hy
        have hy := e5 vs2 (Same.lsq e hq2)
        rw [hu2] at hy
        cases hy
        refine ⟨Same.new e2, fun Hv ev k => ?_⟩
        exact (bx_tu (SqT.of (k T _ e2 upd_same)) (.cons (bu.mono ev) (.cons (bu2.mono ev) .nil))).here
  · unfold zpP
    rw [List.length_zipWith, Paired.length r, Paired.length r2]
    omega
theorem di_zip (hm : X.mg "zip" = none) (ha : DE X G W a (rLi X.K Ps)) (hb : DE X G W b (rLi X.K Qs)) (hg : Gl X "zip" := by rfl) (hs : starEach [a, b] X.env = (false, eval a X.env) :: starEach [b] X.env := by rfl) (hs2 : starEach [b] X.env = [(false, eval b X.env)] := by rfl) (hpl : (backTo pos (starEach [b] X.env)).any (·.1) = false := by rfl) :
    DI X G W (.Tuple elts kk tpos) (.Call (.Name "zip" p) [a, b] [] pos) (zpP X.K Ps Qs) :=
  PI.to (pi_zip hg hm (da_cons ha (da_cons hb da_nil hs2) hs) hs hpl) fun s H R ⟨c, S, k⟩ => ⟨c, S, fun vs H' S' e' b => by
    cases b with
    | cons b1 b =>
      obtain ⟨v, rfl, b2⟩ := bx1 b
      obtain ⟨q, us, rfl, hq, r⟩ := b1.here
      obtain ⟨q2, us2, rfl, hq2, r2⟩ := b2.here
      exact ⟨q, q2, us, us2, rfl, Same.lsq vis_sub hq, Same.lsq vis_sub hq2, k _ H' S' e' (iter_zip hq hq2 r r2)⟩⟩
end
end
end SQ
end
section
set_option maxHeartbeats 4000000
namespace SQ
open PySem PySem.Spec PyProof.Rows L2 PySem.W
noncomputable section

/-! ### dict(zip(tuple, list)) -/
section
variable {prog : Program} {w : World} {A : Around} {E : Value → Shared → Prop} {s : Shared}
theorem zip_held_item {z TI TO T i1 i2 : Addr} {fp1 fp2 : List Addr} {n1 n2 i : Nat} {P1 P2 : Nat → Value → Prop} {St1 St2 : Nat → Heap → Prop} {f : Bool} {oT : Obj} {Q : Value → Shared → Prop} (S : ZipSep2 z TI TO i1 i2 fp1 fp2)
    (D1 : Draws prog w A i1 fp1 n1 P1 St1) (D2 : Draws prog w A i2 fp2 n2 P2 St2)
    (hz : IsZipHeld s.heap z TI TO T f) (hT : s.heap.get? T = some oT) (hTI : IsTupOf2 s.heap TI (.ref i1) (.ref i2)) (st1 : St1 i s.heap) (st2 : St2 i s.heap) (hlt1 : i < n1) (hlt2 : i < n2)
    (hQ : ∀ x y h' tk, P1 i x → P2 i y → IsZipHeld h' z TI TO T true → St1 (i + 1) h' → St2 (i + 1) h' → IsTupOf2 h' s.heap.objs.size x y → h'.objs.size = s.heap.objs.size + 1 →
      (∀ c o, c ≠ z → c ≠ i1 → c ≠ i2 → s.heap.get? c = some o → h'.get? c = some o) → Q (.ref s.heap.objs.size) { s with heap := h', toks := tk }) :
    wpAny (model prog w) A (Builtin.«zip.__next__» ⟨[.ref z], []⟩) (fun fin s' => ∃ v, fin = .done (.ret v) ∧ Q v s') E s := by
  show wpAny _ _ (field (.ref z) 2 >>= _) _ _ _
  refine wpAny_bind (wpAny_field hz rfl (x := .bool false) rfl ?_)
  show wpAny _ _ (field (.ref z) 3 >>= _) _ _ _
  refine wpAny_bind (wpAny_field hz rfl (x := .ref TI) rfl ?_)
  refine wpAny_bind (wpAny_seqItems hTI rfl ?_)
  show wpAny _ _ (Builtin.SmallTypes.ownedTupleIsFree (.ref z) >>= _) _ _ _
  refine wpAny_bind (wpAny_tupleHeld_zip hz hT fun h₁ hz₁ hs₁ => ?_)
  simp only [Bool.false_eq_true, if_false]
  refine wpAny_bind ?_
  rw [← Array.forIn_toList]
  simp only [List.forIn_cons, List.forIn_nil]
  refine wpAny_bind (wpAny_bind (wpAny_holding ?_))
  show wpAny _ _ (Builtin.SmallTypes.nextOf (.ref i1) >>= _) _ _ _
  refine wpAny_bind (D1.item i { s with heap := h₁ } _ _ hlt1 (D1.over st1 hs₁ S.zf1) fun x h₂ tk2 px st1₂ hs₂ => wpAny_pure ?_)
  refine wpAny_pure ?_
  refine wpAny_bind (wpAny_bind (wpAny_holding ?_))
  show wpAny _ _ (Builtin.SmallTypes.nextOf (.ref i2) >>= _) _ _ _
  have st2₂ : St2 i h₂ := D2.over (D2.over st2 hs₁ S.zf2) hs₂ S.sep1_2
  refine wpAny_bind (D2.item i { s with heap := h₂, toks := tk2 } _ _ hlt2 st2₂ fun y h₃ tk3 py st2₃ hs₃ => wpAny_pure ?_)
  refine wpAny_pure (wpAny_pure ?_)
  show wpAny _ _ (newTuple [x, y] >>= _) _ _ _
  refine wpAny_bind (wpAny_newTuple ?_)
  replace hs₂ : Heap.SameBut i1 h₁ h₂ := hs₂
  replace hs₃ : Heap.SameBut i2 h₂ h₃ := hs₃
  have hsz : h₃.objs.size = s.heap.objs.size := by rw [hs₃.1, hs₂.1, hs₁.1]
  have hz₃ : IsZipHeld h₃ z TI TO T true := hs₃.extBut _ _ S.zi2 (hs₂.extBut _ _ S.zi1 hz₁)
  have hk : ∀ c o, c ≠ z → c ≠ i1 → c ≠ i2 → s.heap.get? c = some o → h₃.get? c = some o := fun c o c1 c2 c3 e => hs₃.extBut _ _ c3 (hs₂.extBut _ _ c2 (hs₁.extBut _ _ c1 e))
  have st1₃ : St1 (i + 1) h₃ := D1.over st1₂ hs₃ S.sep2_1
  refine wpAny_pure ⟨_, rfl, ?_⟩
  show Q (.ref h₃.objs.size) _
  have hp : IsTupOf2 (h₃.push { cls := .type "tuple", data := .seq #[x, y] }) h₃.objs.size x y := Heap.get?_push_size _ rfl
  have hz4 : (h₃.push { cls := .type "tuple", data := .seq #[x, y] }).objs.size = h₃.objs.size + 1 := Heap.size_push ..
  rw [hsz] at hp hz4 ⊢
  exact hQ x y _ tk3 px py (Heap.get?_push_of_some _ hz₃) (D1.frame _ _ _ st1₃ fun b _ o e => Heap.get?_push_of_some _ e) (D2.frame _ _ _ st2₃ fun b _ o e => Heap.get?_push_of_some _ e) hp hz4 fun c o c1 c2 c3 e => Heap.get?_push_of_some _ (hk c o c1 c2 c3 e)
theorem zip_held_end {z TI TO T i1 i2 : Addr} {fp1 fp2 : List Addr} {n1 n2 i : Nat} {P1 P2 : Nat → Value → Prop} {St1 St2 : Nat → Heap → Prop} {f : Bool} {oT : Obj} {Q : Fin → Shared → Prop} (S : ZipSep2 z TI TO i1 i2 fp1 fp2)
    (D1 : Draws prog w A i1 fp1 n1 P1 St1) (D2 : Draws prog w A i2 fp2 n2 P2 St2)
    (hz : IsZipHeld s.heap z TI TO T f) (hT : s.heap.get? T = some oT) (hTI : IsTupOf2 s.heap TI (.ref i1) (.ref i2)) (st1 : St1 i s.heap) (st2 : St2 i s.heap) (hend : i = n1)
    (hE : ∀ h' e, (∀ c o, c ≠ z → c ≠ i1 → c ≠ i2 → s.heap.get? c = some o → h'.get? c = some o) → (∃ o, h'.get? e = some o ∧ o.cls = .type "StopIteration") → E (.ref e) { s with heap := h' }) :
    wpAny (model prog w) A (Builtin.«zip.__next__» ⟨[.ref z], []⟩) Q E s := by
  show wpAny _ _ (field (.ref z) 2 >>= _) _ _ _
  refine wpAny_bind (wpAny_field hz rfl (x := .bool false) rfl ?_)
  show wpAny _ _ (field (.ref z) 3 >>= _) _ _ _
  refine wpAny_bind (wpAny_field hz rfl (x := .ref TI) rfl ?_)
  refine wpAny_bind (wpAny_seqItems hTI rfl ?_)
  show wpAny _ _ (Builtin.SmallTypes.ownedTupleIsFree (.ref z) >>= _) _ _ _
  refine wpAny_bind (wpAny_tupleHeld_zip hz hT fun h₁ hz₁ hs₁ => ?_)
  simp only [Bool.false_eq_true, if_false]
  refine wpAny_bind ?_
  rw [← Array.forIn_toList]
  simp only [List.forIn_cons, List.forIn_nil]
  refine wpAny_bind (wpAny_bind (wpAny_holding ?_))
  show wpAny _ _ (Builtin.SmallTypes.nextOf (.ref i1) >>= _) _ _ _
  subst hend
  refine wpAny_bind (D1.done { s with heap := h₁ } _ _ (D1.over st1 hs₁ S.zf1) fun h₂ e hs₂ he => ?_)
  exact hE h₂ e (fun c o c1 c2 _ x => hs₂ _ _ c2 (hs₁.extBut _ _ c1 x)) he
theorem pyNext_zip_held_item {z TI TO T i1 i2 : Addr} {fp1 fp2 : List Addr} {n1 n2 i : Nat} {P1 P2 : Nat → Value → Prop} {St1 St2 : Nat → Heap → Prop} {f : Bool} {oT : Obj} {Q : Option Value → Shared → Prop} (S : ZipSep2 z TI TO i1 i2 fp1 fp2)
    (D1 : Draws prog w A.in1 i1 fp1 n1 P1 St1) (D2 : Draws prog w A.in1 i2 fp2 n2 P2 St2)
    (hz : IsZipHeld s.heap z TI TO T f) (hT : s.heap.get? T = some oT) (hTI : IsTupOf2 s.heap TI (.ref i1) (.ref i2)) (st1 : St1 i s.heap) (st2 : St2 i s.heap) (hlt1 : i < n1) (hlt2 : i < n2)
    (hQ : ∀ x y h' tk, P1 i x → P2 i y → IsZipHeld h' z TI TO T true → St1 (i + 1) h' → St2 (i + 1) h' → IsTupOf2 h' s.heap.objs.size x y → h'.objs.size = s.heap.objs.size + 1 →
      (∀ c o, c ≠ z → c ≠ i1 → c ≠ i2 → s.heap.get? c = some o → h'.get? c = some o) → Q (some (.ref s.heap.objs.size)) { s with heap := h', toks := tk }) :
    wpAny (model prog w) A (pyNext (.ref z)) Q E s := by
  have hTy : s.TypeIs (.ref z) "zip" := ⟨_, hz, rfl⟩
  unfold pyNext
  exact wpAny_bind (wpAny_attempt (wpAny_callSpecial?_slot (name := Str.ofString "__next__") hTy F.slot_zip_next
    (wpAny_call_entry F.slot_zip_next hTy F.entry_zip_next
      (zip_held_item S D1 D2 hz hT hTI st1 st2 hlt1 hlt2 fun x y h' tk a1 a2 a3 a4 a5 a6 a7 a8 => wpAny_pure (hQ x y h' tk a1 a2 a3 a4 a5 a6 a7 a8)) (F.args_zip_next_1 _))))
theorem pyNext_zip_held_end {z TI TO T i1 i2 : Addr} {fp1 fp2 : List Addr} {n1 n2 i : Nat} {P1 P2 : Nat → Value → Prop} {St1 St2 : Nat → Heap → Prop} {f : Bool} {oT : Obj} {Q : Option Value → Shared → Prop} (S : ZipSep2 z TI TO i1 i2 fp1 fp2)
    (D1 : Draws prog w A.in1 i1 fp1 n1 P1 St1) (D2 : Draws prog w A.in1 i2 fp2 n2 P2 St2)
    (hz : IsZipHeld s.heap z TI TO T f) (hT : s.heap.get? T = some oT) (hTI : IsTupOf2 s.heap TI (.ref i1) (.ref i2)) (st1 : St1 i s.heap) (st2 : St2 i s.heap) (hend : i = n1)
    (hQ : ∀ h', (∀ c o, c ≠ z → c ≠ i1 → c ≠ i2 → s.heap.get? c = some o → h'.get? c = some o) → Q none { s with heap := h' }) : wpAny (model prog w) A (pyNext (.ref z)) Q E s := by
  have hTy : s.TypeIs (.ref z) "zip" := ⟨_, hz, rfl⟩
  unfold pyNext
  refine wpAny_bind (wpAny_attempt (wpAny_callSpecial?_slot (name := Str.ofString "__next__") hTy F.slot_zip_next
    (wpAny_call_entry F.slot_zip_next hTy F.entry_zip_next (zip_held_end S D1 D2 hz hT hTI st1 st2 hend fun h' e hk he => ?_) (F.args_zip_next_1 _))))
  obtain ⟨o, ho, hc⟩ := he
  refine wpAny_bind (wpAny_isInstance (T := "StopIteration") (b := true) ⟨o, ho, hc⟩ isSubtype_stop ?_)
  exact wpAny_pure (hQ _ hk)
end
theorem zipTL_arg {prog : Program} {w : World} (z TI TO i1 i2 l1 l2 : Addr) (S : ZipSep2 z TI TO i1 i2 [i1, l1] [i2, l2]) (n1 : l1 ≠ i1) (n2 : l2 ≠ i2) (xs ys : Array Value) (hs : xs.size = ys.size) :
    PairArg prog w "zip" z [z, TI, TO, i1, i2, l1, l2] [z, TO, i1, i2] xs.size (fun i k v => xs[i]? = some k ∧ ys[i]? = some v)
      (fun h => IsZip h z TI TO .none ∧ IsTupOf2 h TI (.ref i1) (.ref i2) ∧ (∃ a b, IsTupOf2 h TO a b) ∧ (h.IsTupleIter i1 l1 0 ∧ h.IsTuple l1 xs) ∧ (h.IsListIter i2 l2 0 ∧ h.IsList l2 ys)) where
  type := fun s ok => ⟨_, ok.1, rfl⟩
  notDict := by decide
  keep := fun h h' ok hk => by
    obtain ⟨hz, hTI, ⟨a, b, hTO⟩, ⟨h1, hl1⟩, ⟨h2, hl2⟩⟩ := ok
    exact ⟨hk _ _ hz, hk _ _ hTI, ⟨a, b, hk _ _ hTO⟩, ⟨h1.at fun o e => hk _ o e, hl1.at fun o e => hk _ o e⟩, ⟨h2.at fun o e => hk _ o e, hl2.at fun o e => hk _ o e⟩⟩
  there := fun h ok b hb => by
    obtain ⟨hz, hTI, ⟨a, c, hTO⟩, ⟨⟨o1, h1, _⟩, ⟨o3, hl1, _⟩⟩, ⟨⟨o2, h2, _⟩, ⟨o4, hl2, _⟩⟩⟩ := ok
    simp only [List.mem_cons, List.not_mem_nil, or_false] at hb
    rcases hb with rfl | rfl | rfl | rfl | rfl | rfl | rfl
    all_goals first | exact ⟨_, hz⟩ | exact ⟨_, hTI⟩ | exact ⟨_, hTO⟩ | exact ⟨_, h1⟩ | exact ⟨_, h2⟩ | exact ⟨_, hl1⟩ | exact ⟨_, hl2⟩
  sub := fun b hb => by simp at hb ⊢; rcases hb with rfl | rfl | rfl | rfl <;> simp
  noKeys := fun A s Q E hA ok h => getAttrOr_miss_zip ok.1 rfl rfl rfl zip_no_keys (by decide +kernel) hA h
  iter := fun A s d Q E hA ok hd hdf h => by
    obtain ⟨hz, hTI, ⟨a, b, hTO⟩, st1, st2⟩ := ok
    simp only [List.mem_cons, List.not_mem_nil, or_false, not_or] at hdf
    obtain ⟨dz, dTI, dTO, di1, di2, dl1, dl2⟩ := hdf
    have D1 := Draws.tuple (prog := prog) (w := w) (A := A.in1) hA i1 l1 n1 xs
    have D2 := Draws.list (prog := prog) (w := w) (A := A.in1) hA i2 l2 n2 ys
    refine wpAny_pyIter_zip hz (h z [z, TO, i1, i2] (fun i h => IsTupOf2 h TI (.ref i1) (.ref i2) ∧ (h.IsTupleIter i1 l1 i ∧ h.IsTuple l1 xs) ∧ (h.IsListIter i2 l2 i ∧ h.IsList l2 ys) ∧
      ((IsZip h z TI TO .none ∧ ∃ a b, IsTupOf2 h TO a b) ∨ ∃ T f oT, IsZipHeld h z TI TO T f ∧ h.get? T = some oT ∧ T ≠ z ∧ T ≠ i1 ∧ T ≠ i2 ∧ T ≠ d)) s.heap s.toks ?_
      ⟨hTI, st1, st2, .inl ⟨hz, a, b, hTO⟩⟩ (fun _ _ e => e) fun b hb => .inl hb)
    exact {
      off := fun hm => by
        simp only [List.mem_cons, List.not_mem_nil, or_false] at hm
        rcases hm with e | e | e | e
        · exact dz e
        · exact dTO e
        · exact di1 e
        · exact di2 e
      frame := fun i h₁ h₂ st hk => by
        obtain ⟨hTI, ⟨h1, hl1⟩, ⟨h2, hl2⟩, hz⟩ := st
        refine ⟨hk _ _ (Ne.symm dTI) hTI, ⟨h1.at fun o e => hk _ o (Ne.symm di1) e, hl1.at fun o e => hk _ o (Ne.symm dl1) e⟩, ⟨h2.at fun o e => hk _ o (Ne.symm di2) e, hl2.at fun o e => hk _ o (Ne.symm dl2) e⟩, ?_⟩
        rcases hz with ⟨hz, a, b, hTO⟩ | ⟨T, f, oT, hz, hT, r1, r2, r3, r4⟩
        · exact .inl ⟨hk _ _ (Ne.symm dz) hz, a, b, hk _ _ (Ne.symm dTO) hTO⟩
        · exact .inr ⟨T, f, oT, hk _ _ (Ne.symm dz) hz, hk _ _ r4 hT, r1, r2, r3, r4⟩
      item := fun i s₁ Q₁ E₁ hi st hds hQ => by
        obtain ⟨hTI, h1, h2, hz⟩ := st
        have lt : ∀ {c o}, s₁.heap.get? c = some o → s₁.heap.objs.size ≠ c := fun e => Nat.ne_of_gt (Heap.lt_size e)
        have n1 : s₁.heap.objs.size ≠ i1 := let ⟨_, e, _⟩ := h1.1; lt e
        have n2 : s₁.heap.objs.size ≠ i2 := let ⟨_, e, _⟩ := h2.1; lt e
        rcases hz with ⟨hz, a, b, hTO⟩ | ⟨T, f, oT, hz, hT, r1, r2, r3, r4⟩
        · refine wpAny_pyNext_zipD2_item S D1 D2 hz hTI hTO h1 h2 hi (by omega) fun x y h' tk px py a1 a2 a3 a4 a5 a6 hk => ?_
          exact hQ s₁.heap.objs.size _ _ h' tk ⟨px, py⟩ (.inl ⟨_, a5, rfl, _, rfl⟩)
            ⟨hk _ _ S.TIz S.TITO S.TIi1 S.TIi2 hTI, a3, a4,
              .inr ⟨s₁.heap.objs.size, false, _, a1, a5, lt hz, n1, n2, Nat.ne_of_gt hds⟩⟩
            fun c o hc e => hk c o (fun x => hc (by simp [x])) (fun x => hc (by simp [x])) (fun x => hc (by simp [x])) (fun x => hc (by simp [x])) e
        · refine pyNext_zip_held_item S D1 D2 hz hT hTI h1 h2 hi (by omega) fun x y h' tk px py a1 a3 a4 a5 a6 hk => ?_
          exact hQ s₁.heap.objs.size _ _ h' tk ⟨px, py⟩ (.inl ⟨_, a5, rfl, _, rfl⟩)
            ⟨hk _ _ S.TIz S.TIi1 S.TIi2 hTI, a3, a4,
              .inr ⟨T, true, oT, a1, hk _ _ r1 r2 r3 hT, r1, r2, r3, r4⟩⟩
            fun c o hc e => hk c o (fun x => hc (by simp [x])) (fun x => hc (by simp [x])) (fun x => hc (by simp [x])) e
      done := fun s₁ Q₁ E₁ st hQ => by
        obtain ⟨hTI, h1, h2, hz⟩ := st
        rcases hz with ⟨hz, a, b, hTO⟩ | ⟨T, f, oT, hz, hT, r1, r2, r3, r4⟩
        · exact wpAny_pyNext_zipD2_end S D1 D2 hz hTI hTO h1 h2 (Nat.le_refl _) (by omega) (.inl rfl) fun h' tk hk => hQ h' tk fun c o hc e => hk c o (fun x => hc (by simp [x])) (fun x => hc (by simp [x])) (fun x => hc (by simp [x])) (fun x => hc (by simp [x])) e
        · exact pyNext_zip_held_end S D1 D2 hz hT hTI h1 h2 rfl fun h' hk => hQ h' s₁.toks fun c o hc e => hk c o (fun x => hc (by simp [x])) (fun x => hc (by simp [x])) (fun x => hc (by simp [x])) e }
theorem zip_sep (N l1 l2 : Nat) (h1 : l1 < N) (h2 : l2 < N) : ZipSep2 (N + 4) (N + 2) (N + 3) N (N + 1) [N, l1] [N + 1, l2] := by
  constructor <;> first | exact List.mem_cons_self | (show (_ : Nat) ≠ _; omega) | (simp only [List.mem_cons, List.not_mem_nil, or_false, not_or]; constructor <;> (intro e; have e : (_ : Nat) = _ := e; omega))
theorem storedH_dist {κ : Type} [DecidableEq κ] : ∀ (ps acc : List (κ × Addr × Value)), ((acc ++ ps).map (·.1)).Nodup → storedAllH acc ps = acc ++ ps
  | [], acc, _ => (List.append_nil acc).symm
  | p :: ps, acc, h => by
    have h2 : (((acc ++ [p]) ++ ps).map (·.1)).Nodup := by rw [List.append_assoc]; exact h
    have e : atKey acc p.1 = none := by
      cases q : atKey acc p.1 with
      | none => rfl
      | some v =>
        exfalso
        unfold atKey at q
        obtain ⟨r, hr, _⟩ := Option.map_eq_some_iff.mp q
        have m := List.mem_of_find?_eq_some hr
        have k : r.1 = p.1 := by simpa using List.find?_some hr
        rw [List.map_append, List.nodup_append] at h
        exact h.2.2 r.1 (List.mem_map.mpr ⟨r, m, rfl⟩) p.1 (List.mem_map.mpr ⟨p, List.mem_cons_self, rfl⟩) k
    show storedAllH (storedH acc p.1 p.2.1 p.2.2) ps = _
    rw [storedH_new e]
    show storedAllH (acc ++ [p]) ps = _
    rw [storedH_dist ps (acc ++ [p]) h2, List.append_assoc]
    rfl

/-! ### dict(zip(ks, ys)) -/
def oDi (kvs : List (List Key × VP)) : OC := fun u H => ∃ us, u = .dT us ∧ Paired (fun (p : List Key × VP) (q : List Key × V) => p.1 = q.1 ∧ Bx p.2 q.2 H) kvs us
section
variable {X : Cx} {G : Gm} {W : Ow} {a b : Expr} {ta : TA} {pos p zp zpos : Pos}
def tDz (K : PySem.W.Frag) (ta : TA) : TE := fun σ H Q => ta σ H fun vs H1 => ∃ (p q : Addr) (ks : List (List Key)) (rs : List Addr) (ys : List V), vs = [.ref p, .ref q] ∧ SqT K H1 p (rs.map V.ref) ∧ Paired (fun r k => H1 r = some (.tup (k.map kV))) rs ks ∧ SqL K H1 q ys ∧
  ks.Nodup ∧ ks.length = ys.length ∧ ks.length ≤ 1000 ∧ ∀ D, H1 D = none → Q (.ref D) (upd H1 D (.dT (ks.zip ys)))
theorem vals_refs : ∀ {rs : List Addr} {us : List Value}, Vals (rs.map V.ref) us → us = rs.map Value.ref
  | [], _, .nil => rfl
  | r :: rs, _, .cons e t => by cases e; rw [vals_refs t]; rfl
def trip : List (List Key) → List Addr → List Value → List (List Key × Addr × Value)
  | k :: ks, r :: rs, u :: us => (k, r, u) :: trip ks rs us
  | _, _, _ => []
theorem trip_len : ∀ {ks : List (List Key)} {rs : List Addr} {us : List Value}, rs.length = ks.length → us.length = ks.length → (trip ks rs us).length = ks.length
  | [], [], [], _, _ => rfl
  | k :: ks, r :: rs, u :: us, h1, h2 => by
    show (trip ks rs us).length + 1 = ks.length + 1
    rw [trip_len (by simpa using h1) (by simpa using h2)]
theorem trip_keys : ∀ {ks : List (List Key)} {rs : List Addr} {us : List Value}, rs.length = ks.length → us.length = ks.length → (trip ks rs us).map (·.1) = ks
  | [], [], [], _, _ => rfl
  | k :: ks, r :: rs, u :: us, h1, h2 => by
    show k :: (trip ks rs us).map (·.1) = k :: ks
    rw [trip_keys (by simpa using h1) (by simpa using h2)]
theorem trip_at : ∀ {ks : List (List Key)} {rs : List Addr} {us : List Value} {i : Nat} {r : Addr} {u : Value}, rs.length = ks.length → us.length = ks.length → rs[i]? = some r → us[i]? = some u → ∃ k, ks[i]? = some k ∧ (trip ks rs us)[i]? = some (k, r, u)
  | [], [], [], i, _, _, _, _, h, _ => by simp at h
  | k :: ks, r :: rs, u :: us, 0, _, _, _, _, h3, h4 => by
    simp at h3 h4
    subst h3 h4
    exact ⟨k, rfl, rfl⟩
  | k :: ks, r :: rs, u :: us, i + 1, r', u', h1, h2, h3, h4 => by
    obtain ⟨k', e1, e2⟩ := trip_at (ks := ks) (rs := rs) (us := us) (i := i) (r := r') (u := u') (by simpa using h1) (by simpa using h2) (by simpa using h3) (by simpa using h4)
    exact ⟨k', by simpa using e1, by show (trip ks rs us)[i]? = _; exact e2⟩
theorem trip_mem {F : Addr → List Key → Prop} : ∀ {ks : List (List Key)} {rs : List Addr} {us : List Value}, Paired F rs ks → ∀ x ∈ trip ks rs us, F x.2.1 x.1
  | _, _, _, .nil => fun x h => by simp [trip] at h
  | _, _, [], .cons _ _ => fun x h => by simp [trip] at h
  | _, _, u :: us, .cons a r => fun x h => by
    rcases List.mem_cons.mp h with e | h
    · subst e; exact a
    · exact trip_mem (us := us) r x h
theorem trip_kt {H : Hp} : ∀ {ks : List (List Key)} {rs : List Addr} {ys : List V} {us : List Value}, Paired (fun r k => H r = some (.tup (k.map kV))) rs ks → Vals ys us → ks.length = ys.length → Paired (fun (p : List Key × V) (q : List Key × Addr × Value) => p.1 = q.1 ∧ H q.2.1 = some (.tup (p.1.map kV)) ∧ RelV p.2 q.2.2) (ks.zip ys) (trip ks rs us)
  | _, _, _, _, .nil, _, _ => .nil
  | _, _, _, _, .cons _ _, .nil, h => by simp at h
  | _, _, _, _, .cons a r, .cons b s, h => .cons ⟨rfl, a, b⟩ (trip_kt r s (by simpa using h))
theorem pe_dictZip (hg1 : Gl X "dict") (hm1 : X.mg "dict" = none) (hg2 : Gl X "zip") (hm2 : X.mg "zip" = none) (hc : X.calm = true) (hu : X.A.units + 2 < cLine) (ha : PA X [a, b] ta)
    (hs : starEach [a, b] X.env = (false, eval a X.env) :: starEach [b] X.env := by rfl) (hpl : (backTo zpos (starEach [b] X.env)).any (·.1) = false := by rfl)
    (hs1 : starEach [.Call (.Name "zip" zp) [a, b] [] zpos] X.env = [(false, eval (.Call (.Name "zip" zp) [a, b] [] zpos) X.env)] := by rfl) :
    PE X (.Call (.Name "dict" p) [.Call (.Name "zip" zp) [a, b] [] zpos] [] pos) (tDz X.K ta) := by
  refine ⟨fun pins s σ H Q I h => ?_⟩
  refine Call_ (ld_blt I hg1 hm1 boot_dict (PyProof.Rows.callWith_type1 ?_ hs1 rfl))
  rw [hs1]
  refine Calls.spliced_cons (Call_ (ld_blt I hg2 hm2 PyProof.Rows.boot_zip (PyProof.Rows.callWith_type1 (thn (ha.run zpos pins s σ H _ I h) fun us s1 ⟨vs, H1, I1, r1, q1⟩ => ?_) hs hpl)))
  obtain ⟨p1, q1', ks, rs, ys, rfl, hqx, hks, hqy, nd, hl, hz, q⟩ := q1
  cases r1 with
  | cons r rr =>
  cases rr with
  | cons r' rr =>
  cases rr
  cases r
  cases r'
  obtain ⟨its, rv, px, _⟩ := I1.tuple hqx
  obtain ⟨its2, rv2, py, _⟩ := I1.list hqy
  have e1 := vals_refs rv
  have l1 := rv.length
  have l2 := rv2.length
  have l3 := Paired.length hks
  have lrs : rs.length = ks.length := l3
  rw [List.length_map] at l1
  refine zip_begins2 (PySem.begins_tuple p1 its.toArray) (PySem.begins_list q1' its2.toArray) px py.isList fun h' hzz hTI hTO h1 h2 hsz hk => ?_
  refine Calls.spliced_nil ?_
  have lp : p1 < s1.heap.objs.size := px.lt
  have lq : q1' < s1.heap.objs.size := py.lt
  have hold : ∀ c o, s1.heap.get? c = some o → h'.get? c = some o := hk
  refine call_dict_pairsH (prog := X.prog) (w := X.w) (knd := tupleKind (mixKind X.prog X.w)) (ps := trip ks rs its2) (s := { s1 with heap := h' })
    (zipTL_arg (s1.heap.objs.size + 4) (s1.heap.objs.size + 2) (s1.heap.objs.size + 3) s1.heap.objs.size (s1.heap.objs.size + 1) p1 q1' (zip_sep _ _ _ lp lq) (Nat.ne_of_lt lp) (Nat.ne_of_lt (Nat.lt_succ_of_lt lq)) its.toArray its2.toArray (by simp; omega))
    (I.ok.hd hc) ?_ ⟨hzz, hTI, ⟨_, _, hTO⟩, ⟨⟨_, h1, rfl, rfl⟩, px.keeps hold⟩, ⟨_, h2, rfl, rfl⟩, py.isList.at fun o e => hold _ o e⟩ ⟨by rw [trip_len lrs (by omega)]; simp; omega, fun i key v hrel => ?_⟩ (fun h2' hk2 x hx => ?_) (by simp; rw [sizeLine_eq]; omega) fun h3 tk hd3 hk3 => ?_
  · show X.A.units + 2 < cLine
    exact hu
  · obtain ⟨g1, g2⟩ := hrel
    rw [e1] at g1
    have g1' : rs[i]?.map Value.ref = some key := by simpa [List.getElem?_map] using g1
    obtain ⟨r, hr, rfl⟩ := Option.map_eq_some_iff.mp g1'
    obtain ⟨k, hk1, hk2⟩ := trip_at (ks := ks) (us := its2) lrs (by omega) hr (by simpa using g2)
    exact ⟨k, r, hk2, rfl⟩
  · have hx2 := trip_mem hks x hx
    have kk := key_of (ks := x.1) I1.hok hx2
    obtain ⟨o, items, n, ho, r⟩ := kk
    have hlt := Heap.lt_size ho
    refine ⟨o, items, n, hk2 _ o ?_ ?_ (hold _ _ ho), r⟩
    · show x.2.1 ≠ h'.objs.size
      rw [hsz]
      exact Nat.ne_of_lt (Nat.lt_of_lt_of_le hlt (Nat.le_add_right _ _))
    · intro z
      have ne : ∀ j : Nat, x.2.1 ≠ s1.heap.objs.size + j := fun j => Nat.ne_of_lt (Nat.lt_of_lt_of_le hlt (Nat.le_add_right _ _))
      simp only [List.mem_cons, List.not_mem_nil, or_false] at z
      rcases z with z | z | z | z
      · exact ne 4 z
      · exact ne 3 z
      · exact ne 0 z
      · exact ne 1 z
  · have kept : ∀ c o, s1.heap.get? c = some o → h3.get? c = some o := fun c o e => by
      have hlt := Heap.lt_size e
      have ne : ∀ j : Nat, c ≠ s1.heap.objs.size + j := fun j => Nat.ne_of_lt (Nat.lt_of_lt_of_le hlt (Nat.le_add_right _ _))
      refine hk3 c o (fun z => ?_) (hold _ _ e)
      simp only [List.mem_cons, List.not_mem_nil, or_false] at z
      rcases z with z | z | z | z
      · exact ne 4 z
      · exact ne 3 z
      · exact ne 0 z
      · exact ne 1 z
    have hle : s1.heap.objs.size ≤ h'.objs.size := by rw [hsz]; exact Nat.le_add_right _ _
    have hn : H1 h'.objs.size = none := I1.hok.fresh hle
    rw [storedH_dist (trip ks rs its2) [] (by rw [List.nil_append, trip_keys lrs (by omega)]; exact nd), List.nil_append] at hd3
    refine ⟨.ref h'.objs.size, _, I1.laid (t' := tk) kept hle (o := .dT (ks.zip ys)) ?_, rfl, q _ hn⟩
    obtain ⟨o, es, ep, g1, g2, g3, g4, g5, g6⟩ := hd3
    refine ⟨by rw [List.length_zip, sizeLine_eq]; omega, ?_, trip ks rs its2, ?_, o, es, ep, g1, g2, g3, g4, g6⟩
    · refine beq_eq_false_iff_ne.mpr fun z => ?_
      have := I1.big
      rw [← z] at this
      exact absurd (Nat.lt_of_lt_of_le this hle) (Nat.lt_irrefl _)
    · have kt := trip_kt (H := H1) hks rv2 hl
      refine Paired.mapP kt fun x y z => ⟨z.1, ?_, z.2.2⟩
      rw [upd_ne (ne_of_none z.2.1 hn)]
      exact z.2.1
end
end
end SQ
end
section
set_option maxHeartbeats 4000000
namespace SQ
open PySem PySem.Spec PyProof.Rows L2
noncomputable section

/-! ### {k: v for ..}, keys tuples -/
/-- a dict with tuple keys, by its one object: keys and values as they stand -/
def DKx (hs : List Key → Int) (a : Addr) (xs : List (List Key × Addr × Value)) : Heap → Prop := fun h =>
  xs.length ≤ sizeLine ∧ (a == sysModules) = false ∧ ∃ (o : Obj) (es : Array DictEntry) (ep : Nat), h.get? a = some o ∧ o.ExactDict ∧ o.data = .dict es ep ∧ es.toList = xs.map (fun q => ⟨hs q.1, .ref q.2.1, q.2.2⟩) ∧ (xs.map (·.1)).Nodup
theorem dkx_ok {P : Program} {w : World} {H : Hp} {h : Heap} {a : Addr} {hs : List Key → Int} {xs : List (List Key × Addr × Value)} (q : DKx hs a xs h) : ObjOk P w H h a (.ext (DKx hs a xs)) := by
  refine ⟨q, ?_, ?_⟩
  · obtain ⟨_, _, o, _, _, e, _⟩ := q
    exact ⟨o, e⟩
  · rintro h1 h2 ⟨a1, a2, o, es, ep, e, r⟩ k
    exact ⟨a1, a2, o, es, ep, k o e, r⟩
/-- a tuple of ints and texts is a key, tracked or of the module -/
theorem key_sq {X : Cx} {pins : List (Addr × Obj)} {σ : St} {H : Hp} {s : Shared} {b : Addr} {k : List Key} (I : Inv X pins σ H s) (h : SqT X.K H b (k.map kV)) : (tupleKind (mixKind X.prog X.w)).is s.heap k b := by
  rcases h with h | ⟨o, its, n, e1, e2, e3, _, e5⟩
  · obtain ⟨_, its, r, o, h1, h2, n, h3⟩ := h.ok I.hok
    exact ⟨o, its.toArray, n, h1, h2, h3, by simpa using items_are r⟩
  · exact ⟨o, its, n, I.kIn _ _ e1, e2, e3, items_are e5⟩
abbrev KsOk (K : PySem.W.Frag) (H : Hp) (xs : List (List Key × Addr × Value)) : Prop := ∀ q ∈ xs, SqT K H q.2.1 (q.1.map kV)
theorem dkx_dict {X : Cx} {pins : List (Addr × Obj)} {σ : St} {H : Hp} {s : Shared} {a : Addr} {hs : List Key → Int} {xs : List (List Key × Addr × Value)} (hh : (tupleKind (mixKind X.prog X.w)).hash = hs) (I : Inv X pins σ H s) (e : H a = some (.ext (DKx hs a xs))) (k : KsOk X.K H xs) :
    xs.length ≤ sizeLine ∧ (a == sysModules) = false ∧ s.heap.DictOfH (tupleKind (mixKind X.prog X.w)) a xs := by
  obtain ⟨⟨h1, h2, o, es, ep, h3, h4, h5, h6, h7⟩, _⟩ := (show ObjOk X.prog X.w H s.heap a (.ext (DKx hs a xs)) from I.hok a _ e)
  subst hh
  exact ⟨h1, h2, o, es, ep, h3, h4, h5, h6, fun q hq => key_sq I (k q hq), h7⟩
theorem atKey_new {k : List Key} {xs : List (List Key × Addr × Value)} (h : k ∉ xs.map (·.1)) : atKey xs k = none :=
  atKey_none_of_get fun j p e => h (List.mem_map.mpr ⟨_, List.mem_of_getElem? e, rfl⟩)
theorem d_dictSetK {X : Cx} {pins : List (Addr × Obj)} {σ : St} {H : Hp} {s : Shared} {E : Value → Shared → Prop} {D b : Addr} {hs : List Key → Int} {xs : List (List Key × Addr × Value)} {k : List Key} {u r : Value} {Q : Unit → Shared → Prop} (hh : (tupleKind (mixKind X.prog X.w)).hash = hs) (hu : X.A.units + 1 < cLine) (I : Inv X pins σ H s) (hD : H D = some (.ext (DKx hs D xs))) (hz : xs.length < sizeLine)
    (ks : KsOk X.K H xs) (eb : SqT X.K H b (k.map kV)) (nk : k ∉ xs.map (·.1)) (ry : RelV (.ref b) u) (h : ∀ s', Inv X pins σ (upd H D (.ext (DKx hs D (xs ++ [(k, b, r)])))) s' → Q () s') : wpAny (model X.prog X.w) X.A (dictSet D u r) Q E s := by
  cases (show u = Value.ref b from ry)
  obtain ⟨z, hd, dd⟩ := dkx_dict hh I hD ks
  refine wpAny_dictSet_heap (hsz := z) (show X.A.units < cLine by omega) (key_sq I eb) dd fun h' dd' hs' => h _ ?_
  rw [storedH_new (atKey_new nk)] at dd'
  obtain ⟨q, es, ep, hq, h2, h3, h4, _, h5⟩ := dd'
  subst hh
  exact d_write I (by rw [hD]; exact True.intro) hs' ⟨q, hq⟩ (dkx_ok ⟨by rw [List.length_append]; exact hz, hd, q, es, ep, hq, h2, h3, h4, h5⟩)
theorem dkx_empty (hs : List Key → Int) (h : Heap) (hb : sysModules < h.objs.size) : DKx hs h.objs.size [] (h.push { cls := .type "dict", data := .dict #[] }) :=
  ⟨Nat.zero_le _, beq_eq_false_iff_ne.mpr (Ne.symm (Nat.ne_of_lt hb)), _, #[], 0, Heap.get?_push_size _ rfl, ⟨rfl, rfl, rfl⟩, rfl, rfl, List.nodup_nil⟩
section
variable {X : Cx}
def tDcT (K : PySem.W.Frag) (hs : List Key → Int) (wi : TI) (g : TG) (tt : TT) (tk tv : TE) (vs : List Nat) : TE := fun σ H Q => wi σ H fun J H1 => ∀ D, H1 D = none → ∃ W : Nat → Nat → Hp → Prop, (∃ m, W 0 m (upd H1 D (.ext (DKx hs D [])))) ∧ ∀ i m H, W i m H →
  (J.stop i H ∧ Q (.ref D) H) ∨ (J.go i H ∧ ∃ Nx : Hp → Prop, (∀ H', Nx H' → ∃ m', m' < m ∧ W (i + 1) m' H') ∧ ∀ x H', J.yld i H x H' → g x (wipe σ vs) H' fun σ2 H2 => wipe σ2 vs = wipe σ vs ∧ tt σ2 H2 fun b H3 =>
    if b = true then tk σ2 H3 fun y H4 => tv σ2 H4 fun z H5 => ∃ xs k b, y = .ref b ∧ SqT K H5 b (k.map kV) ∧ H5 D = some (.ext (DKx hs D xs)) ∧ KsOk K H5 xs ∧ k ∉ xs.map (·.1) ∧ xs.length < sizeLine ∧ ∀ u, RelV z u → Nx (upd H5 D (.ext (DKx hs D (xs ++ [(k, b, u)])))) else Nx H3)
theorem dcT_core {pins : List (Addr × Obj)} {s : Shared} {σ : St} {H : Hp} {Q : VK} {kx vx tg iter : Expr} {ifs : List Expr} {scope : Scope} {own : List (Str × Nat)} {pos pos' : Pos} {wi : TI} {g : TG} {tt : TT} {tk tv : TE} {use : Option (Value → Sem Unit)} {Qf : Value → Shared → Prop}
    {hs : List Key → Int} (hh : (tupleKind (mixKind X.prog X.w)).hash = hs) (hu : X.A.units + 1 < cLine) (hc : X.calm = true) (hN : X.N.Nodup) (I : Inv X pins σ H s) (hi : PI X tg iter wi) (ok : BlkOk X.N X.env.scope scope own)
    (hg : ∀ (s : Shared) (H : Hp) (C : Addr) (cl : List (Str × Addr)) (fp : List Addr), PG (X.blk s H scope (compEnvC scope cl C X.env) fp) tg g) (ht : ∀ (s : Shared) (H : Hp) (C : Addr) (cl : List (Str × Addr)) (fp : List Addr), PTs (X.blk s H scope (compEnvC scope cl C X.env) fp) ifs tt)
    (hk : ∀ (s : Shared) (H : Hp) (C : Addr) (cl : List (Str × Addr)) (fp : List Addr), PE (X.blk s H scope (compEnvC scope cl C X.env) fp) kx tk)
    (he : ∀ (s : Shared) (H : Hp) (C : Addr) (cl : List (Str × Addr)) (fp : List Addr), PE (X.blk s H scope (compEnvC scope cl C X.env) fp) vx tv) (hst : ∀ x, foldedSetIterable iter X.env x = pure x)
    (h : tDcT X.K hs wi g tt tk tv (own.map (·.2)) σ H Q)
    (hRR : ∀ D C s' m H', Inv X pins σ H' s' → Q (.ref D) H' → s'.heap.Ns C m → FpOk X pins H' C → compPost (model X.prog X.w) X.A X.xe use Qf (.ref D) C (.ok .next) s') :
    wpAny (model X.prog X.w) X.A (comprehension (.DictComp kx vx [⟨tg, iter, ifs, 0⟩] scope pos) scope X.env pos' newDict false (eval iter X.env) use) Qf X.xe s := by
  have hfree : ∀ y ∈ scope.names, y.2 = .free → ∃ c, X.env.cells.lookup y.1 = some c := fun y hy e => by
    rcases ok.free y hy e with k | k
    · exact I.ok.has _ (.inl k)
    · exact I.ok.has _ (.inr k)
  refine wpAny_comprehension_free (use := use) rfl hst (closure_ok hfree) ok.kind (fun y hy e => by rw [ok.uniq y hy, e])
    (thn (hi.run pins s σ H _ I h) fun xv s1 hx => thn hx fun itv s2 h2 => ?_)
  obtain ⟨it, fp, tn, J, H2, e, I2, T, st2, f2, q⟩ := h2
  subst e
  refine wpAny_newObj_type (newEnv_comp ?_)
  generalize hD : s2.heap.objs.size = D
  have hDn : H2 D = none := I2.hok.fresh (Nat.le_of_eq hD)
  obtain ⟨W, ⟨m0, w0⟩, turn⟩ := q D hDn
  -- the new list
  generalize hs3 : ({ s2 with heap := s2.heap.push { cls := .type "dict", data := .dict #[] } } : Shared) = s3
  have I3 : Inv X pins σ (upd H2 D (.ext (DKx hs D []))) s3 := by
    rw [← hs3]
    refine I2.laid (t' := s2.toks) (fun b o e => Heap.get?_push_of_some _ e) (Nat.le_of_eq hD) ?_
    rw [← hD]
    exact dkx_ok (dkx_empty hs s2.heap I2.big)
  have h3 : s3.heap = s2.heap.push { cls := .type "dict", data := .dict #[] } := by rw [← hs3]
  have sz : ∀ b ∈ fp, b < s2.heap.objs.size := fun b hb => by
    obtain ⟨o, e, _⟩ := T.obj _ _ st2 b hb
    exact Heap.lt_size e
  have f3 : ∀ b ∈ fp, FpOk X pins (upd H2 D (.ext (DKx hs D []))) b ∧ b < s3.heap.objs.size := fun b hb => by
    have hlt := sz b hb
    refine ⟨⟨?_, (f2 b hb).2⟩, by rw [h3, Heap.size_push]; exact Nat.lt_succ_of_lt hlt⟩
    rw [upd_ne (by rw [← hD]; exact Nat.ne_of_lt hlt)]
    exact (f2 b hb).1
  have st3 : tn 0 s3.heap := T.keep _ _ _ st2 fun b _ o e => by rw [h3]; exact Heap.get?_push_of_some _ e
  have I4 := block_start I3 ok hN f3
  have pg := hg s3 (upd H2 D (.ext (DKx hs D []))) s3.heap.objs.size (cellsFrom (s3.heap.objs.size + 1) scope.names (cloFrom X.env.cells scope.names [])) fp
  have pt := ht s3 (upd H2 D (.ext (DKx hs D []))) s3.heap.objs.size (cellsFrom (s3.heap.objs.size + 1) scope.names (cloFrom X.env.cells scope.names [])) fp
  have pk := hk s3 (upd H2 D (.ext (DKx hs D []))) s3.heap.objs.size (cellsFrom (s3.heap.objs.size + 1) scope.names (cloFrom X.env.cells scope.names [])) fp
  have pe := he s3 (upd H2 D (.ext (DKx hs D []))) s3.heap.objs.size (cellsFrom (s3.heap.objs.size + 1) scope.names (cloFrom X.env.cells scope.names [])) fp
  show codeAny _ _ (.compStart (.DictComp kx vx [⟨tg, iter, ifs, 0⟩] scope pos) 0 (.ref it) (.ref D) (compEnvC scope (cellsFrom (s3.heap.objs.size + 1) scope.names (cloFrom X.env.cells scope.names [])) s3.heap.objs.size X.env)) (compPost (model X.prog X.w) X.A X.xe use Qf (.ref D) s3.heap.objs.size) { s3 with heap := pushCells (s3.heap.push { cls := .type "dict", data := .dict #[] }) scope.names }
  have nfp : ∀ b ∈ fp, (upd H2 D (.ext (DKx hs D []))) b = none := fun b hb => (f3 b hb).1.1
  generalize hce : compEnvC scope (cellsFrom (s3.heap.objs.size + 1) scope.names (cloFrom X.env.cells scope.names [])) s3.heap.objs.size X.env = ce at I4 pg pt pk pe ⊢
  have cL : ce.locals = s3.heap.objs.size := by subst hce; rfl
  generalize hH3 : upd H2 D (.ext (DKx hs D [])) = H3 at I3 I4 pg pt pk pe w0 nfp f3
  generalize hs4 : ({ s3 with heap := pushCells (s3.heap.push { cls := .type "dict", data := .dict #[] }) scope.names } : Shared) = s4 at I4 ⊢
  have st4 : tn 0 s4.heap := T.keep _ _ _ st3 fun b _ o e => by rw [← hs4]; exact pushCells_keeps _ _ _ _ (Heap.get?_push_of_some _ e)
  have stat : ∀ {σ' : St} {H' : Hp} {s' : Shared}, Inv (X.blk s3 H3 scope ce fp) [] σ' H' s' → (∀ b ∈ fp, H' b = none) → ∀ b ∈ fp, FpOk (X.blk s3 H3 scope ce fp) [] H' b := fun {σ' H' s'} I' hn b hb =>
    ⟨hn b hb, (I'.ok.exf b hb).1, I'.ok.exfs b hb, .inl hb, fun x c e => (I'.ok.exf b hb).2 x c e, fun p hp => absurd (show p ∈ ([] : List (Addr × Obj)) ++ [] from hp) (by simp)⟩
  have loop : codeAny (model X.prog X.w) X.A (.compLoop (.DictComp kx vx [⟨tg, iter, ifs, 0⟩] scope pos) 0 (.ref it) (.ref D) ce) (compPost (model X.prog X.w) X.A X.xe use Qf (.ref D) s3.heap.objs.size) s4 := by
    refine compLoop_anyD (fun n s' => ∃ i H', Inv (X.blk s3 H3 scope ce fp) [] (wipe σ (own.map (·.2))) H' s' ∧ tn i s'.heap ∧ (∀ b ∈ fp, H' b = none) ∧ W i n H') ?_ m0 ⟨0, H3, I4, st4, nfp, w0⟩
    rintro n s5 ⟨i, H5, I5, st5, n5, w5⟩
    rcases turn i n H5 w5 with ⟨stop, qq⟩ | ⟨go, Nx, hNx, step⟩
    · have td := T.done (X.blk s3 H3 scope ce fp) rfl rfl rfl hc i [] s5 _ H5 (fun _ _ => False) I5 (stat I5 n5) st5 stop
      refine thnF td fun r s6 ⟨hr, I6⟩ => ?_
      subst hr
      -- back in the def's context
      have I7 : Inv X pins σ H5 s6 := I3.call' (ch := fp) I6.os I6.base I6.hok I6.bare fun b hb => ⟨(f3 b hb).1.2.2.2.1, (f3 b hb).1.2.1, (f3 b hb).1.2.2.2.2.1, (f3 b hb).1.2.2.2.2.2⟩
      have nC : H5 s3.heap.objs.size = none := by
        have z : H5 ce.locals = none := I6.free
        rw [cL] at z
        exact z
      obtain ⟨m, hn, _⟩ := I6.loc
      have hn : s6.heap.Ns ce.locals m := hn
      rw [cL] at hn
      exact hRR D s3.heap.objs.size s6 m H5 I7 qq hn (I3.fpOk (Nat.le_refl _) nC)
    · have ti := T.item (X.blk s3 H3 scope ce fp) rfl rfl rfl hc i [] s5 _ H5 (fun _ _ => False) I5 (stat I5 n5) st5 go
      refine thnF ti fun r s6 ⟨u, hr, h6⟩ => ?_
      subst hr
      refine thnF h6 fun _ s7 ⟨x, H7, I7, r7, y7, st7, n7⟩ => ?_
      have I7' := I7.pinned (stat I7 n7) (T.obj _ _ st7)
      refine thnF (pg.run _ s7 _ H7 x u _ I7' r7 (step x H7 y7)) fun _ s8 ⟨σ8, H8, I8, hw8, q8⟩ => ?_
      refine thnF (pt.run _ s8 σ8 H8 _ I8 q8) fun b s9 ⟨H9, I9, q9⟩ => ?_
      -- the turn's end
      have fin : ∀ {s' : Shared} {H' : Hp}, Inv (X.blk s3 H3 scope ce fp) ([] ++ pinsAt fp s7.heap) σ8 H' s' → Nx H' → ∃ m, m < n ∧ ∃ i H', Inv (X.blk s3 H3 scope ce fp) [] (wipe σ (own.map (·.2))) H' s' ∧ tn i s'.heap ∧ (∀ b ∈ fp, H' b = none) ∧ W i m H' := fun {s' H'} I' nx => by
        obtain ⟨m', hm, w'⟩ := hNx H' nx
        have pin' : ∀ b ∈ fp, ∀ o, s7.heap.get? b = some o → s'.heap.get? b = some o ∧ H' b = none := fun b hb o e =>
          let z := I'.pin (b, o) (List.mem_append_right _ (List.mem_append_right _ (mem_pinsAt hb e)))
          ⟨z.1, z.2.1⟩
        have hl : (wipe σ (own.map (·.2))).length = σ8.length := by rw [← hw8, wipe_length]
        refine ⟨m', hm, i + 1, H', (I'.unpinned (pins := [])).weak hl (fun j v e => ?_), T.keep _ _ _ st7 fun b hb o e => (pin' b hb o e).1, fun b hb => ?_, w'⟩
        · rw [← hw8] at e
          exact (wipe_some e).1
        · obtain ⟨o, e, _⟩ := T.obj _ _ st7 b hb
          exact (pin' b hb o e).2
      cases b with
      | false =>
        simp only [Bool.false_eq_true, if_false] at q9 ⊢
        exact fin I9 q9
      | true =>
        simp only [if_true] at q9 ⊢
        refine thnF (pk.run _ s9 σ8 H9 _ I9 q9) fun z s10 ⟨yk, H10, I10, r10, q10⟩ => ?_
        refine thnF (pe.run _ s10 σ8 H10 _ I10 q10) fun z2 s11 ⟨yv, H11, I11, r11, xs, k, b, ek, hb11, hD11, ks11, nk11, hz11, nx⟩ => ?_
        subst ek
        exact d_dictSetK (X := X.blk s3 H3 scope ce fp) hh hu I11 hD11 hz11 ks11 hb11 nk11 r10 fun s12 I12 => fin I12 (nx _ r11)
  exact codeAny_compStart_dict loop (T.self X.A 0 _ _ _ st4 loop)
/-- as a value -/
theorem pe_dcT {kx vx tg iter : Expr} {ifs : List Expr} {scope : Scope} {own : List (Str × Nat)} {pos : Pos} {wi : TI} {g : TG} {tt : TT} {tk tv : TE} {hs : List Key → Int} (hh : (tupleKind (mixKind X.prog X.w)).hash = hs) (hu : X.A.units + 1 < cLine) (hc : X.calm = true) (hN : X.N.Nodup) (hi : PI X tg iter wi) (ok : BlkOk X.N X.env.scope scope own)
    (hg : ∀ (s : Shared) (H : Hp) (C : Addr) (cl : List (Str × Addr)) (fp : List Addr), PG (X.blk s H scope (compEnvC scope cl C X.env) fp) tg g) (ht : ∀ (s : Shared) (H : Hp) (C : Addr) (cl : List (Str × Addr)) (fp : List Addr), PTs (X.blk s H scope (compEnvC scope cl C X.env) fp) ifs tt)
    (hk : ∀ (s : Shared) (H : Hp) (C : Addr) (cl : List (Str × Addr)) (fp : List Addr), PE (X.blk s H scope (compEnvC scope cl C X.env) fp) kx tk)
    (he : ∀ (s : Shared) (H : Hp) (C : Addr) (cl : List (Str × Addr)) (fp : List Addr), PE (X.blk s H scope (compEnvC scope cl C X.env) fp) vx tv) (hst : ∀ x, foldedSetIterable iter X.env x = pure x := by intro _; rfl) :
    PE X (.DictComp kx vx [⟨tg, iter, ifs, 0⟩] scope pos) (tDcT X.K hs wi g tt tk tv (own.map (·.2))) := by
  refine ⟨fun pins s σ H Q I h => ?_⟩
  rw [arm_eval_DictComp]
  refine dcT_core hh hu hc hN I hi ok hg ht hk he hst h fun D C s' m H' I' q hn f => ⟨m, hn, fun h'' sb => ?_⟩
  obtain ⟨f0, f1, f2, f3, f4, f5⟩ := f
  exact ⟨.ref D, H', I'.turned (t' := s'.toks) (fun b o hb e => (sb.2 b hb).trans e) f0 f1 f3 f4 f5, rfl, q⟩
end

/-! ### what stands at a key -/
def lkP (kvs : List (List Key × VP)) (k : List Key) : Option VP := (kvs.find? fun p => decide (p.1 = k)).map (·.2)
def putP (kvs : List (List Key × VP)) (k : List Key) (P : VP) : List (List Key × VP) :=
  if (kvs.any fun kv => decide (kv.1 = k)) = true then kvs.map (fun kv => if kv.1 = k then (kv.1, P) else kv) else kvs ++ [(k, P)]
abbrev PK (H : Hp) (kvs : List (List Key × VP)) (us : List (List Key × V)) : Prop := Paired (fun (p : List Key × VP) (q : List Key × V) => p.1 = q.1 ∧ Bx p.2 q.2 H) kvs us
theorem lk_val {H : Hp} {k : List Key} {P : VP} : ∀ {kvs : List (List Key × VP)} {us : List (List Key × V)}, PK H kvs us → lkP kvs k = some P → ∃ v, valV us k = some v ∧ Bx P v H
  | _, _, .nil, h => by simp [lkP] at h
  | p :: kvs, q :: us, .cons a r, h => by
    by_cases e : p.1 = k
    · have h' : some p.2 = some P := by simpa [lkP, List.find?_cons, e] using h
      cases h'
      exact ⟨q.2, valV_pos (a.1.symm.trans e), a.2⟩
    · have h' : lkP kvs k = some P := by simpa [lkP, List.find?_cons, e] using h
      obtain ⟨v, h1, h2⟩ := lk_val r h'
      exact ⟨v, by rw [valV_neg (fun z => e (a.1.trans z))]; exact h1, h2⟩
theorem pk_any {H : Hp} {k : List Key} : ∀ {kvs : List (List Key × VP)} {us : List (List Key × V)}, PK H kvs us → (kvs.any fun kv => decide (kv.1 = k)) = (us.any fun kv => decide (kv.1 = k))
  | _, _, .nil => rfl
  | p :: kvs, q :: us, .cons a r => by rw [List.any_cons, List.any_cons, a.1, pk_any r]
theorem pk_map {H : Hp} {k : List Key} {P : VP} {v : V} (b : Bx P v H) : ∀ {kvs : List (List Key × VP)} {us : List (List Key × V)}, PK H kvs us → PK H (kvs.map fun kv => if kv.1 = k then (kv.1, P) else kv) (us.map fun kv => if kv.1 = k then (kv.1, v) else kv)
  | _, _, .nil => .nil
  | p :: kvs, q :: us, .cons a r => by
    refine .cons ?_ (pk_map b r)
    dsimp only
    by_cases e : p.1 = k
    · rw [if_pos e, if_pos (a.1.symm.trans e)]
      exact ⟨a.1, b⟩
    · rw [if_neg e, if_neg (fun z => e (a.1.trans z))]
      exact a
theorem pk_put {H : Hp} {k : List Key} {P : VP} {v : V} {kvs : List (List Key × VP)} {us : List (List Key × V)} (b : Bx P v H) (r : PK H kvs us) : PK H (putP kvs k P) (putK us k v) := by
  unfold putP putK
  rw [pk_any r]
  by_cases e : (us.any fun kv => decide (kv.1 = k)) = true
  · rw [if_pos e, if_pos e]
    exact pk_map b r
  · rw [if_neg e, if_neg e]
    exact paired_app r (.cons ⟨rfl, b⟩ .nil)
theorem pk_mono {H H' : Hp} (e : Same H H') {kvs : List (List Key × VP)} {us : List (List Key × V)} (r : PK H kvs us) : PK H' kvs us := bxf_mono e r
theorem putP_len (kvs : List (List Key × VP)) (k : List Key) (P : VP) : (putP kvs k P).length ≤ kvs.length + 1 := by
  unfold putP
  split
  · rw [List.length_map]; omega
  · rw [List.length_append]; exact Nat.le_refl _

abbrev PX (K : PySem.W.Frag) (H : Hp) (kvs : List (List Key × VP)) (xs : List (List Key × Addr × Value)) : Prop := Paired (fun (p : List Key × VP) (q : List Key × Addr × Value) => p.1 = q.1 ∧ SqT K H q.2.1 (q.1.map kV) ∧ ∃ z, RelV z q.2.2 ∧ Bx p.2 z H) kvs xs
theorem px_mono {K : PySem.W.Frag} {H H' : Hp} (e : Same H H') {kvs : List (List Key × VP)} {xs : List (List Key × Addr × Value)} (r : PX K H kvs xs) : PX K H' kvs xs := Paired.mapP r fun _ _ ⟨a, b, z, c, d⟩ => ⟨a, Same.t e b, z, c, d.mono e⟩
theorem px_keys {K : PySem.W.Frag} {H : Hp} : ∀ {kvs : List (List Key × VP)} {xs : List (List Key × Addr × Value)}, PX K H kvs xs → KsOk K H xs
  | _, _, .nil, q, h => nomatch h
  | _, _, .cons a r, q, h => by
    rcases List.mem_cons.mp h with rfl | h
    · exact a.2.1
    · exact px_keys r q h
theorem px_fst {K : PySem.W.Frag} {H : Hp} : ∀ {kvs : List (List Key × VP)} {xs : List (List Key × Addr × Value)}, PX K H kvs xs → kvs.map (·.1) = xs.map (·.1)
  | _, _, .nil => rfl
  | _, _, .cons a r => by rw [List.map_cons, List.map_cons, px_fst r, a.1]
theorem lk_px {K : PySem.W.Frag} {H : Hp} {k : List Key} {P : VP} : ∀ {kvs : List (List Key × VP)} {xs : List (List Key × Addr × Value)}, PX K H kvs xs → lkP kvs k = some P → ∃ p, atKey xs k = some p ∧ ∃ z, RelV z p.2 ∧ Bx P z H
  | _, _, .nil, h => by simp [lkP] at h
  | p :: kvs, q :: xs, .cons a r, h => by
    by_cases e : p.1 = k
    · have h' : some p.2 = some P := by simpa [lkP, List.find?_cons, e] using h
      cases h'
      refine ⟨q.2, ?_, a.2.2⟩
      have e2 : q.1 = k := a.1.symm.trans e
      simp [atKey, List.find?_cons, e2]
    · have h' : lkP kvs k = some P := by simpa [lkP, List.find?_cons, e] using h
      obtain ⟨p2, h1, h2⟩ := lk_px r h'
      refine ⟨p2, ?_, h2⟩
      have e2 : ¬ q.1 = k := fun z => e (a.1.trans z)
      simpa [atKey, List.find?_cons, e2] using h1
theorem pe_kdget {X : Cx} {o i : Expr} {td ty : TE} {pos : Pos} {d : Addr} {es : Array DictEntry} {n : Nat} (T : KDict X.K X.w d es n) (ho : PE X o td) (hi : PE X i ty) (hs : NoSl i) :
    PE X (.Subscript o i pos) (fun σ H Q => td σ H fun x H1 => ty σ H1 fun y H2 => ∃ (z : Str) (u0 : Value) (v0 : V), x = .ref d ∧ y = .str z ∧ PySem.W.nsIn X.K d z = some (some u0) ∧ RelV v0 u0 ∧ Q v0 H2) := by
  refine ⟨fun pins s σ H Q I h => ?_⟩
  refine subD_of PySem.F.slot_dict_getitem.lookup hs (thn (ho.run pins s σ H _ I h) fun u s1 ⟨x, H1, I1, rx, q1⟩ => thn (hi.run pins s1 σ H1 _ I1 q1) fun iv s2 ⟨y, H2, I2, ry, z, u0, v0, ex, ey, hn, rv, q2⟩ => ?_)
  have rx2 := rx
  subst ex
  obtain rfl : u = Value.ref d := rx
  exact ⟨kd_type T I2, op_item_kd T pins s2 σ H2 _ y _ iv Q I2 rx2 ry ⟨z, u0, v0, rfl, ey, hn, rv, q2⟩⟩
section
variable {X : Cx} {G : Gm} {W W' : Ow} {e a b : Expr} {es : List Expr} {P P1 P2 : VP} {Ps Qs : List VP} {pos pos' apos cpos p zp zpos : Pos} {k : Nat} {D : DEn} {rest : List Stmt} {kvs : List (List Key × VP)} {ky : List Key}
theorem dn_dict0 : DN X G W (.Dict [] [] pos) (oDi []) := PE.to pe_dnewT fun s H Q ⟨c, S, kq⟩ => fun p np => by
  obtain ⟨a1, a2⟩ := S.newN np (C := oDi []) (o := .dT []) fun H' e' => ⟨[], rfl, .nil⟩
  exact kq p _ a1 a2 (S.fresh np).1
theorem own_di {c : Ct} {s : St} {H : Hp} {q : Addr} (S : StOk c G W s H) (hq : (q, oDi kvs) ∈ W) : ∃ us, H q = some (.dT us) ∧ PK (vis c W H) kvs us := by
  obtain ⟨u, hu, hc⟩ := S.owned hq
  obtain ⟨us, rfl, r⟩ := hc _ (Same.refl _)
  exact ⟨us, hu, r⟩
/-- q[e], q an owned dict -/
theorem de_dgetO {q : Addr} (hr : Room k X.A) (hq : (q, oDi kvs) ∈ W) (ha : DE X G W a (is (.ref q))) (hb : DE X G W b (rTr (ky.map kV))) (h : lkP kvs ky = some P) (hs : NoSl b := by exact fun _ _ => rfl) : DE X G W (.Subscript a b pos) P :=
  PE.to (pe_dget (td := tD G W W (is (.ref q))) (ty := tD G W W (rTr (ky.map kV))) (by have := hr.un; omega) ha hb hs) fun s H Q ⟨c, S, kq⟩ => ⟨c, S, fun v1 H1 S1 e1 b1 => ⟨c, S1, fun v2 H2 S2 e2 b2 => by
    cases b1.eq
    obtain ⟨t, rfl, ht⟩ := b2.here
    obtain ⟨us, hu, r⟩ := own_di S2 hq
    obtain ⟨v, hv, bv⟩ := lk_val r h
    refine ⟨q, v, rfl, ?_, kq v H2 S2 (e1.trans e2) bv⟩
    rw [← hv]
    exact .t hu (vis_sub _ _ ht)⟩⟩
/-- d[e], d a plain dict -/
theorem de_dget (hr : Room k X.A) (ha : DE X G W a (rDi kvs)) (hb : DE X G W b (rTr (ky.map kV))) (h : lkP kvs ky = some P) (hs : NoSl b := by exact fun _ _ => rfl) : DE X G W (.Subscript a b pos) P :=
  PE.to (pe_dget (td := tD G W W (rDi kvs)) (ty := tD G W W (rTr (ky.map kV))) (by have := hr.un; omega) ha hb hs) fun s H Q ⟨c, S, kq⟩ => ⟨c, S, fun v1 H1 S1 e1 b1 => ⟨c, S1, fun v2 H2 S2 e2 b2 => by
    obtain ⟨q, us, rfl, hu, r⟩ := (b1.mono e2).here
    obtain ⟨t, rfl, ht⟩ := b2.here
    obtain ⟨v, hv, bv⟩ := lk_val r h
    refine ⟨q, v, rfl, ?_, kq v H2 S2 (e1.trans e2) bv⟩
    rw [← hv]
    exact .t (vis_sub _ _ hu) (vis_sub _ _ ht)⟩⟩
/-- a dict with tuple keys, by its object -/
def rDk (K : PySem.W.Frag) (hs : List Key → Int) (kvs : List (List Key × VP)) : VP := fun v H => ∃ a xs, v = .ref a ∧ H a = some (.ext (DKx hs a xs)) ∧ PX K H kvs xs
theorem bx_dk {K : PySem.W.Frag} {hs : List Key → Int} {H : Hp} {a : Addr} {kvs : List (List Key × VP)} {xs : List (List Key × Addr × Value)} (h : H a = some (.ext (DKx hs a xs))) (r : PX K H kvs xs) : Bx (rDk K hs kvs) (.ref a) H := fun _ e => ⟨a, xs, rfl, e _ _ h, px_mono e r⟩
theorem pe_dgetK {X : Cx} {o i : Expr} {td ty : TE} {pos : Pos} {hs : List Key → Int} (hh : (tupleKind (mixKind X.prog X.w)).hash = hs) (hu : X.A.units + 1 < cLine) (ho : PE X o td) (hi : PE X i ty) (hsl : NoSl i) :
    PE X (.Subscript o i pos) (fun σ H Q => td σ H fun x H1 => ty σ H1 fun y H2 => ∃ a b xs k p z, x = .ref a ∧ y = .ref b ∧ H2 a = some (.ext (DKx hs a xs)) ∧ KsOk X.K H2 xs ∧ SqT X.K H2 b (k.map kV) ∧ atKey xs k = some p ∧ RelV z p.2 ∧ Q z H2) := by
  refine ⟨fun pins s σ H Q I h => ?_⟩
  refine subD_of PySem.F.slot_dict_getitem.lookup hsl (thn (ho.run pins s σ H _ I h) fun u s1 ⟨x, H1, I1, rx, q1⟩ => thn (hi.run pins s1 σ H1 _ I1 q1) fun iv s2 ⟨y, H2, I2, ry, a, b, xs, k, p, z, ex, ey, e1, e2, e3, e4, e5, q2⟩ => ?_)
  subst ex ey
  obtain rfl : u = Value.ref a := rx
  obtain rfl : iv = Value.ref b := ry
  obtain ⟨_, _, dd⟩ := dkx_dict hh I2 e1 e2
  exact ⟨dd.typeIs, wpAny_getItem_heap (tupleKind_room_in1 hu) (key_sq I2 e3) dd e4 ⟨z, H2, I2.tok _, e5, q2⟩⟩
/-- d[e], d such a dict -/
theorem de_dgetK {hs : List Key → Int} (hh : (tupleKind (mixKind X.prog X.w)).hash = hs) (hr : Room k X.A) (ha : DE X G W a (rDk X.K hs kvs)) (hb : DE X G W b (rTu X.K ((ky.map kV).map is))) (h : lkP kvs ky = some P) (hsl : NoSl b := by exact fun _ _ => rfl) : DE X G W (.Subscript a b pos) P :=
  PE.to (pe_dgetK (td := tD G W W (rDk X.K hs kvs)) (ty := tD G W W (rTu X.K ((ky.map kV).map is))) hh (by have := hr.un; omega) ha hb hsl) fun s H Q ⟨c, S, kq⟩ => ⟨c, S, fun v1 H1 S1 e1 b1 => ⟨c, S1, fun v2 H2 S2 e2 b2 => by
    obtain ⟨q, xs, rfl, hu, r⟩ := (b1.mono e2).here
    obtain ⟨t, us, rfl, ht, hus⟩ := b2.here
    have eu : us = ky.map kV := bxs_is hus
    subst eu
    obtain ⟨p, hp, z, hz, bz⟩ := lk_px r h
    exact ⟨q, t, xs, ky, p, z, rfl, rfl, vis_sub _ _ hu, fun x hx => Same.t vis_sub (px_keys r x hx), Same.t vis_sub ht, hp, hz, kq z H2 S2 (e1.trans e2) bz⟩⟩⟩
/-- q[i] = e -/
theorem dss_dput {q : Addr} (hr : Room k X.A) (hq : (q, oDi kvs) ∈ W) (ha : DE X G W a (is (.ref q))) (hb : DE X G W b (rTr (ky.map kV))) (he : DE X G W e P) (hl : kvs.length ≤ 100000) (h : DSs X G (putO W q (oDi (putP kvs ky P))) rest D)
    (hs : swapsWith e (some (.Subscript a b pos')) pos.line X.env = pure false := by rfl) : DSs X G W (.Assign [.Subscript a b pos'] e pos :: rest) D :=
  dss_cons (PS.to (ps_dput (td := tD G W W (is (.ref q))) (ty := tD G W W (rTr (ky.map kV))) (tv := tD G W W P) (by have := hr.un; omega) ha hb he hs) fun E s H ⟨c, S, eo⟩ => ⟨c, S, fun v0 H0 S0 e0 b0 => ⟨c, S0, fun v1 H1 S1 e1 b1 => ⟨c, S1, fun v2 H2 S2 e2 b2 => by
    cases b1.eq
    obtain ⟨t, rfl, ht⟩ := b2.here
    obtain ⟨us, hu, r⟩ := own_di S2 hq
    refine ⟨q, _, rfl, DPut.t hu (vis_sub _ _ ht) ?_, ?_⟩
    · rw [← Paired.length r]
      exact Nat.lt_of_le_of_lt hl (by decide)
    · obtain ⟨a1, a2⟩ := S2.put (q := q) (C := oDi (putP kvs ky P)) (o := .dT (putK us ky v0)) (inO.mem hq) fun H' e' => ⟨_, rfl, pk_put (((b0.mono e1).mono e2).mono e') (pk_mono e' r)⟩
      exact eo.nx _ _ _ _ h a1⟩⟩⟩)
theorem refs_of {H : Hp} {ks : List (List Key)} : ∀ {us : List V}, Paired (fun P u => Bx P u H) (ks.map fun k => rTr (k.map kV)) us → ∃ rs : List Addr, us = rs.map V.ref ∧ Paired (fun r k => H r = some (.tup (k.map kV))) rs ks := by
  induction ks with
  | nil => intro us h; cases h; exact ⟨[], rfl, .nil⟩
  | cons k ks ih =>
    intro us h
    cases h with
    | cons a r =>
      obtain ⟨rs, e, z⟩ := ih r
      obtain ⟨t, rfl, ht⟩ := a.here
      exact ⟨t :: rs, by rw [e]; rfl, .cons ht z⟩
theorem zip_pk {H : Hp} : ∀ {ks : List (List Key)} {Qs : List VP} {ys : List V}, Paired (fun P u => Bx P u H) Qs ys → PK H (ks.zip Qs) (ks.zip ys)
  | [], _, _, _ => .nil
  | _ :: _, _, _, .nil => .nil
  | k :: ks, _, _, .cons a r => .cons ⟨rfl, a⟩ (zip_pk r)
/-- dict(zip(cells, values)) -/
theorem dn_dictZip (ks : List (List Key)) (hr : Room k X.A) (hm1 : X.mg "dict" = none) (hm2 : X.mg "zip" = none) (ha : DE X G W a (rTu X.K (ks.map fun k => rTr (k.map kV)))) (hb : DE X G W b (rLi X.K Qs)) (nd : ks.Nodup) (hl : ks.length = Qs.length) (hz : ks.length ≤ 1000)
    (hg1 : Gl X "dict" := by rfl) (hg2 : Gl X "zip" := by rfl) (hc : X.calm = true := by rfl)
    (hs : starEach [a, b] X.env = (false, eval a X.env) :: starEach [b] X.env := by rfl) (hs0 : starEach [b] X.env = [(false, eval b X.env)] := by rfl) (hpl : (backTo zpos (starEach [b] X.env)).any (·.1) = false := by rfl)
    (hs1 : starEach [.Call (.Name "zip" zp) [a, b] [] zpos] X.env = [(false, eval (.Call (.Name "zip" zp) [a, b] [] zpos) X.env)] := by rfl) : DN X G W (.Call (.Name "dict" p) [.Call (.Name "zip" zp) [a, b] [] zpos] [] pos) (oDi (ks.zip Qs)) :=
  PE.to (pe_dictZip hg1 hm1 hg2 hm2 hc (by have := hr.un; omega) (da_cons ha (da_cons hb da_nil hs0) hs) hs hpl hs1) fun s H Q ⟨c, S, kq⟩ => ⟨c, S, fun vs H1 S1 e1 b1 => by
    cases b1 with
    | cons b2 b3 =>
      obtain ⟨v, rfl, b4⟩ := bx1 b3
      obtain ⟨q1, us, rfl, h1, r1⟩ := b2.here
      obtain ⟨q2, ys, rfl, h2, r2⟩ := b4.here
      obtain ⟨rs, rfl, hrs⟩ := refs_of r1
      have l2 := Paired.length r2
      refine ⟨q1, q2, ks, rs, ys, rfl, Same.t vis_sub h1, Paired.mapP hrs fun _ _ z => vis_sub _ _ z, Same.lsq vis_sub h2, nd, by omega, hz, fun p np => ?_⟩
      obtain ⟨a1, a2⟩ := S1.newN np (C := oDi (ks.zip Qs)) (o := .dT (ks.zip ys)) fun H' e' => ⟨_, rfl, pk_mono e' (zip_pk r2)⟩
      exact kq p _ a1 (e1.trans a2) (S1.fresh np).1⟩

/-! ### a dict of the module, keys texts -/
theorem de_kdget {d : Addr} {es : Array DictEntry} {n : Nat} {z : Str} {u0 : Value} {v0 : V} (T : KDict X.K X.w d es n) (ha : DE X G W a (is (.ref d))) (hb : DE X G W b (is (.str z))) (h : PySem.W.nsIn X.K d z = some (some u0)) (rv : RelV v0 u0) (hs : NoSl b := by exact fun _ _ => rfl) : DE X G W (.Subscript a b pos) (is v0) :=
  PE.to (pe_kdget T ha hb hs) fun s H Q ⟨c, S, kq⟩ => ⟨c, S, fun v1 H1 S1 e1 b1 => ⟨c, S1, fun v2 H2 S2 e2 b2 => ⟨z, u0, v0, b1.eq, b2.eq, h, rv, kq v0 H2 S2 (e1.trans e2) bx_is⟩⟩⟩
theorem od_inK {d : Addr} {es : Array DictEntry} {n : Nat} {z : Str} {r : Option Value} (T : KDict X.K X.w d es n) (h : PySem.W.nsIn X.K d z = some r) : OpD X W (compareOp .In) (is (.str z)) (is (.ref d)) (is (.bl r.isSome)) := ⟨_, op_in_kd T, fun c G s H v1 v2 Q S b1 b2 kq => ⟨z, r, b1.eq, b2.eq, h, kq _ H (Same.refl H) bx_is⟩⟩
theorem od_notInK {d : Addr} {es : Array DictEntry} {n : Nat} {z : Str} {r : Option Value} (T : KDict X.K X.w d es n) (h : PySem.W.nsIn X.K d z = some r) : OpD X W (compareOp .NotIn) (is (.str z)) (is (.ref d)) (is (.bl (!r.isSome))) := ⟨_, op_notIn_kd T, fun c G s H v1 v2 Q S b1 b2 kq => ⟨z, r, b1.eq, b2.eq, h, kq _ H (Same.refl H) bx_is⟩⟩
end
end
end SQ
end
section
set_option maxHeartbeats 4000000
namespace SQ
open PySem PySem.Spec PyProof.Rows L2
noncomputable section

/-! ### {key: value for target in iter} -/
section
variable {X : Cx} {G : Gm} {W : Ow} {e : Expr} {pos : Pos} {kx vx tg iter : Expr} {scope : Scope} {own : List (Str × Nat)} {js : List Nat}
structure DcOk (X : Cx) (G : Gm) (W : Ow) {α : Type} (xs : List α) (p : α → VP) (ky : α → List Key) (r : α → VP) (kx vx tg : Expr) (scope : Scope) (own : List (Str × Nat)) (js : List Nat) (up : α → Gm → Gm) : Prop where
  ok : BlkOk X.N X.env.scope scope own
  jsOk : ∀ j ∈ js, j ∈ own.map (·.2)
  sz : xs.length ≤ 100000
  nd : (xs.map ky).Nodup
  tg : ∀ (s : Shared) (H : Hp) (C : Addr) (cl : List (Str × Addr)) (fp : List Addr), ∀ x ∈ xs, DG (X.blk s H scope (compEnvC scope cl C X.env) fp) tg (p x) js (up x)
  key : ∀ (s : Shared) (H : Hp) (C : Addr) (cl : List (Str × Addr)) (fp : List Addr), ∀ x ∈ xs, DE (X.blk s H scope (compEnvC scope cl C X.env) fp) (up x (wipeG G (own.map (·.2)))) W kx (rTu X.K (((ky x).map kV).map is))
  val : ∀ (s : Shared) (H : Hp) (C : Addr) (cl : List (Str × Addr)) (fp : List Addr), ∀ x ∈ xs, DE (X.blk s H scope (compEnvC scope cl C X.env) fp) (up x (wipeG G (own.map (·.2)))) W vx (r x)
theorem putP_new {kvs : List (List Key × VP)} {k : List Key} {P : VP} (h : k ∉ kvs.map (·.1)) : putP kvs k P = kvs ++ [(k, P)] := by
  unfold putP
  rw [if_neg]
  intro z
  obtain ⟨q, hq, e⟩ := List.any_eq_true.mp z
  exact h (List.mem_map.mpr ⟨q, hq, of_decide_eq_true e⟩)
theorem dc_turns {α : Type} {xs : List α} {f : α → List Key × VP} {i : Nat} {x : α} (hx : xs[i]? = some x) : (xs.take (i + 1)).map f = (xs.take i).map f ++ [f x] := by
  rw [List.take_succ, hx, Option.toList_some, List.map_append]
  rfl
theorem nd_take {α : Type} {xs : List α} {ky : α → List Key} (nd : (xs.map ky).Nodup) {i : Nat} {x : α} (hx : xs[i]? = some x) : ky x ∉ (xs.take i).map ky := by
  intro z
  obtain ⟨y, hy, e⟩ := List.mem_map.mp z
  obtain ⟨j, hj⟩ := List.getElem?_of_mem hy
  have hjl : j < (xs.take i).length := (List.getElem?_eq_some_iff.mp hj).1
  rw [List.length_take] at hjl
  have hji : j < i := by omega
  rw [List.getElem?_take_of_lt hji] at hj
  have e1 : (xs.map ky)[j]? = some (ky x) := by rw [List.getElem?_map, hj]; show some (ky y) = _; rw [e]
  have e2 : (xs.map ky)[i]? = some (ky x) := by rw [List.getElem?_map, hx]; rfl
  have hl : j < (xs.map ky).length := (List.getElem?_eq_some_iff.mp e1).1
  have := (List.getElem?_inj hl nd).mp (e1.trans e2.symm)
  omega
/-- what is owned of such a dict while it is made -/
def oDk (K : PySem.W.Frag) (hs : List Key → Int) (D : Addr) (kvs : List (List Key × VP)) : OC := fun u H => ∃ xs, u = .ext (DKx hs D xs) ∧ PX K H kvs xs
theorem own_dk {K : PySem.W.Frag} {hs : List Key → Int} {kvs : List (List Key × VP)} {c : Ct} {s : St} {H : Hp} {q : Addr} (S : StOk c G W s H) (hq : (q, oDk K hs q kvs) ∈ W) : ∃ xs, H q = some (.ext (DKx hs q xs)) ∧ PX K (vis c W H) kvs xs := by
  obtain ⟨u, hu, hc⟩ := S.owned hq
  obtain ⟨xs, rfl, r⟩ := hc _ (Same.refl _)
  exact ⟨xs, hu, r⟩
theorem dc_read {K : PySem.W.Frag} {hf : List Key → Int} {α : Type} {xs : List α} {p : α → VP} {ky : α → List Key} {r : α → VP} {js vs : List Nat} {up : α → Gm → Gm} (hjs : ∀ j ∈ js, j ∈ vs) (hz : xs.length ≤ 100000) (nd : (xs.map ky).Nodup) {s : St} {H : Hp} {Q : VK}
    (h : tD G W W (rDk K hf (xs.map fun x => (ky x, r x))) s H Q) :
    tDcT K hf (tI G W (xs.map p)) (fun v s H Q => ∃ x ∈ xs, tG (p x) js (up x) v s H Q) (fun s H Q => tT G W true s H Q ∨ ∃ x ∈ xs, tT (up x (wipeG G vs)) W true s H Q)
      (fun s H Q => ∃ x ∈ xs, tD (up x (wipeG G vs)) W W (rTu K (((ky x).map kV).map is)) s H Q) (fun s H Q => ∃ x ∈ xs, tD (up x (wipeG G vs)) W W (r x) s H Q) vs s H Q := by
  obtain ⟨c, S, k⟩ := h
  refine ⟨c, S, fun J H1 S1 e1 it => ?_⟩
  intro Dl hD
  have fr := S1.fresh hD
  refine ⟨fun i m H' => m = xs.length - i ∧ i ≤ xs.length ∧ StOk ⟨H1, inO W, c.hd⟩ G ((Dl, oDk K hf Dl ((xs.take i).map fun x => (ky x, r x))) :: W) s H', ⟨xs.length, by simp, Nat.zero_le _, ?_⟩, ?_⟩
  · exact (S1.loop).newO hD fun H' _ => ⟨[], rfl, by simp; exact .nil⟩
  rintro i m H2 ⟨rfl, hi, S2⟩
  have sm : Same (vis c W H1) H2 := (S1.unloop S2).2.trans vis_sub
  by_cases hlt : i < xs.length
  · have hx : xs[i]? = some xs[i] := by simp [hlt]
    obtain ⟨hgo, hy⟩ := it.go i (p xs[i]) H2 (by simp [hlt]) sm
    refine .inr ⟨hgo, fun H' => StOk ⟨H1, inO W, c.hd⟩ G ((Dl, oDk K hf Dl ((xs.take (i + 1)).map fun x => (ky x, r x))) :: W) s H', fun H' S' => ⟨xs.length - (i + 1), by omega, rfl, hlt, S'⟩, fun x H3 y => ?_⟩
    obtain ⟨e3, k3⟩ := hy x H3 y
    have S3 := S2.same e3
    have bx3 : Bx (p xs[i]) x (vis c ((Dl, oDk K hf Dl ((xs.take i).map fun x => (ky x, r x))) :: W) H3) := iter_bx S1 S2 e3 k3
    have hs : ∀ q ∈ W, q ∈ (Dl, oDk K hf Dl ((xs.take i).map fun x => (ky x, r x))) :: W := fun q h => List.mem_cons_of_mem _ h
    have ndW : (W.map (·.1)).Nodup := (List.nodup_cons.mp S3.nd).2
    have nDW : ¬ inO W Dl := (List.nodup_cons.mp S3.nd).1
    have Sb := S3.sub (W' := W) hs ndW (wipe_env S3.env vs)
    have ev := vis_subc (c := ⟨H1, inO W, c.hd⟩) (W := (Dl, oDk K hf Dl ((xs.take i).map fun x => (ky x, r x))) :: W) (W' := W) (H := H3) (H' := H3) (fun b q => List.mem_cons_of_mem _ q)
    refine ⟨xs[i], List.getElem_mem hlt, _, _, W, Sb, (by rw [ev]; exact bx3), fun s4 H4 S4 e4 f4 l4 => ?_⟩
    refine ⟨(wipe_eqE l4 fun j hj => f4 j fun z => hj (hjs j z)).trans wipe_twice, .inr ⟨xs[i], List.getElem_mem hlt, _, S4, fun H5 S5 e5 => ?_⟩⟩
    have stays : ∀ {G6 : Gm} {s6 : St} {H6 : Hp}, StOk (Ct.sub ⟨H1, inO W, c.hd⟩ ((Dl, oDk K hf Dl ((xs.take i).map fun x => (ky x, r x))) :: W) W H3) G6 W s6 H6 →
        StOk ⟨H1, inO W, c.hd⟩ G ((Dl, oDk K hf Dl ((xs.take i).map fun x => (ky x, r x))) :: W) s H6 ∧ vis (Ct.sub ⟨H1, inO W, c.hd⟩ ((Dl, oDk K hf Dl ((xs.take i).map fun x => (ky x, r x))) :: W) W H3) W H6 = vis ⟨H1, inO W, c.hd⟩ ((Dl, oDk K hf Dl ((xs.take i).map fun x => (ky x, r x))) :: W) H6 := fun S6 => by
      obtain ⟨a1, _, a3⟩ := S3.back (W1 := (Dl, oDk K hf Dl ((xs.take i).map fun x => (ky x, r x))) :: W) hs S6 rfl rfl fun a C h => by
        rcases List.mem_cons.mp h with q | q
        · cases q
          exact .inr ⟨List.mem_cons_self, nDW⟩
        · exact .inl q
      exact ⟨a1, a3⟩
    dsimp only
    rw [if_pos rfl]
    refine ⟨xs[i], List.getElem_mem hlt, _, S5, fun yk H6 S6 e6 b6 => ⟨xs[i], List.getElem_mem hlt, _, S6, fun y H7 S7 e7 b7 => ?_⟩⟩
    obtain ⟨a1, a3⟩ := stays S7
    have b6' := b6.mono e7
    rw [a3] at b7 b6'
    obtain ⟨tb, ws, rfl, htb, hws⟩ := b6'.here
    have ews : ws = (ky xs[i]).map kV := bxs_is hws
    subst ews
    obtain ⟨us, hu, ra⟩ := own_dk a1 List.mem_cons_self
    have nk : ky xs[i] ∉ us.map (·.1) := by
      rw [← px_fst ra, List.map_map]
      exact nd_take nd hx
    refine ⟨us, ky xs[i], tb, rfl, Same.t vis_sub htb, hu, fun x hx => Same.t vis_sub (px_keys ra x hx), nk, ?_, fun u hu' => ?_⟩
    · have l1 := Paired.length ra
      rw [List.length_map, List.length_take] at l1
      have l3 : sizeLine = 16777216 := sizeLine_eq
      omega
    · refine a1.change (W' := (Dl, oDk K hf Dl ((xs.take (i + 1)).map fun x => (ky x, r x))) :: W) rfl List.mem_cons_self fun b C hb => ?_
      rcases List.mem_cons.mp hb with q | q
      · cases q
        refine .inr ⟨rfl, fun H' e' => ⟨_, rfl, ?_⟩⟩
        rw [dc_turns hx]
        exact paired_app (px_mono e' ra) (.cons ⟨rfl, Same.t e' htb, _, hu', b7.mono e'⟩ .nil)
      · refine .inl ⟨?_, List.mem_cons_of_mem _ q⟩
        rintro rfl
        exact nDW (inO.mem q)
  · have ei : i = xs.length := by omega
    subst ei
    refine .inl ⟨?_, ?_⟩
    · have z := it.stop H2 sm
      rw [List.length_map] at z
      exact z
    · obtain ⟨U, sm2⟩ := S1.unloop S2
      obtain ⟨us, hu, ra⟩ := own_dk U List.mem_cons_self
      rw [List.take_length] at ra
      have Sd := U.drop (W' := W) (fun q h => List.mem_cons_of_mem _ h) (List.nodup_cons.mp U.nd).2
      have sv : Same (vis c ((Dl, oDk K hf Dl ((xs.take xs.length).map fun x => (ky x, r x))) :: W) H2) (vis c W H2) := vis_drop fun b q => List.mem_cons_of_mem _ q
      refine k (.ref Dl) H2 Sd (e1.trans (sm2.trans sv)) (bx_dk (hid_some.mpr ⟨fun z => ?_, hu⟩) (px_mono sv ra))
      rcases z with z | z
      · exact fr.1 z
      · exact (List.nodup_cons.mp U.nd).1 z
theorem de_dc {hf : List Key → Int} (hh : (tupleKind (mixKind X.prog X.w)).hash = hf) {α : Type} {xs : List α} {p : α → VP} {ky : α → List Key} {r : α → VP} {up : α → Gm → Gm} {k : Nat} (hr : Room k X.A) (hN : X.N.Nodup) (hi : DI X G W tg iter (xs.map p)) (L : DcOk X G W xs p ky r kx vx tg scope own js up) (hc : X.calm = true := by rfl) (hs : ∀ x, foldedSetIterable iter X.env x = pure x := by intro _; rfl) :
    DE X G W (.DictComp kx vx [⟨tg, iter, [], 0⟩] scope pos) (rDk X.K hf (xs.map fun x => (ky x, r x))) :=
  PE.to (pe_dcT hh (by have := hr.un; omega) hc hN hi L.ok (fun s H C cl fp => ⟨fun pins s σ H v u Q I rr ⟨x, hx, q⟩ => (L.tg _ _ C cl fp x hx).run pins s σ H v u Q I rr q⟩)
    (tt := fun s H Q => tT G W true s H Q ∨ ∃ x ∈ xs, tT (up x (wipeG G (own.map (·.2)))) W true s H Q)
    (fun s H C cl fp => ⟨fun pins s σ H Q I q => by
      rcases q with q | ⟨x, hx, q⟩
      · exact (dts_nil (G := G) (W := W)).run pins s σ H Q I q
      · exact (dts_nil (G := up x (wipeG G (own.map (·.2)))) (W := W)).run pins s σ H Q I q⟩)
    (fun s H C cl fp => ⟨fun pins s σ H Q I ⟨x, hx, q⟩ => (L.key _ _ C cl fp x hx).run pins s σ H Q I q⟩)
    (fun s H C cl fp => ⟨fun pins s σ H Q I ⟨x, hx, q⟩ => (L.val _ _ C cl fp x hx).run pins s σ H Q I q⟩) hs) fun s H Q h => dc_read L.jsOk L.sz L.nd h
end

/-! ### list comprehensions without tests -/
section
variable {X : Cx} {G : Gm} {W : Ow} {e : Expr} {pos : Pos} {elt tg iter : Expr} {scope : Scope} {own : List (Str × Nat)} {js : List Nat}
theorem filt_true {α : Type} (xs : List α) : xs.filter (fun _ => true) = xs := by simp
theorem de_lcA {α : Type} {xs : List α} {p : α → VP} {r : α → VP} {up : α → Gm → Gm} (hN : X.N.Nodup) (hi : DI X G W tg iter (xs.map p)) (ok : BlkOk X.N X.env.scope scope own) (jsOk : ∀ j ∈ js, j ∈ own.map (·.2)) (sz : xs.length ≤ 100000)
    (htg : ∀ (s : Shared) (H : Hp) (C : Addr) (cl : List (Str × Addr)) (fp : List Addr), ∀ x ∈ xs, DG (X.blk s H scope (compEnvC scope cl C X.env) fp) tg (p x) js (up x))
    (he : ∀ (s : Shared) (H : Hp) (C : Addr) (cl : List (Str × Addr)) (fp : List Addr), ∀ x ∈ xs, DE (X.blk s H scope (compEnvC scope cl C X.env) fp) (up x (wipeG G (own.map (·.2)))) W elt (r x)) (hc : X.calm = true := by rfl) (hs : ∀ x, foldedSetIterable iter X.env x = pure x := by intro _; rfl) :
    DE X G W (.ListComp elt [⟨tg, iter, [], 0⟩] scope pos) (rLi X.K (xs.map r)) := by
  have L : LcOk X G W xs p (fun _ => true) r elt tg [] scope own js up := ⟨ok, jsOk, sz, htg, fun _ _ _ _ _ _ _ => dts_nil, fun s H C cl fp x hx _ => he s H C cl fp x hx⟩
  have z := de_lc (pos := pos) hN hi L hc hs
  rw [filt_true] at z
  exact z
theorem de_lcF {α : Type} {xs : List α} {p : α → VP} {r : α → VP} {f : α → Bool} {up : α → Gm → Gm} {cnd : Expr} (hN : X.N.Nodup) (hi : DI X G W tg iter (xs.map p)) (ok : BlkOk X.N X.env.scope scope own) (jsOk : ∀ j ∈ js, j ∈ own.map (·.2)) (sz : xs.length ≤ 100000)
    (htg : ∀ (s : Shared) (H : Hp) (C : Addr) (cl : List (Str × Addr)) (fp : List Addr), ∀ x ∈ xs, DG (X.blk s H scope (compEnvC scope cl C X.env) fp) tg (p x) js (up x))
    (hcnd : ∀ (s : Shared) (H : Hp) (C : Addr) (cl : List (Str × Addr)) (fp : List Addr), ∀ x ∈ xs, DT (X.blk s H scope (compEnvC scope cl C X.env) fp) (up x (wipeG G (own.map (·.2)))) W cnd (f x))
    (he : ∀ (s : Shared) (H : Hp) (C : Addr) (cl : List (Str × Addr)) (fp : List Addr), ∀ x ∈ xs, f x = true → DE (X.blk s H scope (compEnvC scope cl C X.env) fp) (up x (wipeG G (own.map (·.2)))) W elt (r x)) (hc : X.calm = true := by rfl) (hs : ∀ x, foldedSetIterable iter X.env x = pure x := by intro _; rfl) :
    DE X G W (.ListComp elt [⟨tg, iter, [cnd], 0⟩] scope pos) (rLi X.K ((xs.filter f).map r)) :=
  de_lc hN hi ⟨ok, jsOk, sz, htg, fun s H C cl fp x hx => dts_one (hcnd s H C cl fp x hx), he⟩ hc hs
theorem dss_setLcA (i : Nat) {y : Str} {py spos : Pos} {rest : List Stmt} {D : DEn} {α : Type} {xs : List α} {p : α → VP} {r : α → VP} {up : α → Gm → Gm} (hN : X.N.Nodup) (hi : DI X G W tg iter (xs.map p)) (ok : BlkOk X.N X.env.scope scope own) (jsOk : ∀ j ∈ js, j ∈ own.map (·.2)) (sz : xs.length ≤ 100000)
    (htg : ∀ (s : Shared) (H : Hp) (C : Addr) (cl : List (Str × Addr)) (fp : List Addr), ∀ x ∈ xs, DG (X.blk s H scope (compEnvC scope cl C X.env) fp) tg (p x) js (up x))
    (he : ∀ (s : Shared) (H : Hp) (C : Addr) (cl : List (Str × Addr)) (fp : List Addr), ∀ x ∈ xs, DE (X.blk s H scope (compEnvC scope cl C X.env) fp) (up x (wipeG G (own.map (·.2)))) W elt (r x))
    (h : DSs X (G.set i (some (rLi X.K (xs.map r)))) W rest D) (hy : X.N[i]? = some y := by rfl) (hyl : X.env.scope.names.lookup y = some .local := by rfl)
    (hsw : swapsWith (.ListComp elt [⟨tg, iter, [], 0⟩] scope pos) (some (.Name y py)) spos.line X.env = pure true := by exact sw_true rfl rfl rfl (by decide +kernel)) (hc : X.calm = true := by rfl) (hs : ∀ x, foldedSetIterable iter X.env x = pure x := by intro _; rfl) :
    DSs X G W (.Assign [.Name y py] (.ListComp elt [⟨tg, iter, [], 0⟩] scope pos) spos :: rest) D := by
  have L : LcOk X G W xs p (fun _ => true) r elt tg [] scope own js up := ⟨ok, jsOk, sz, htg, fun _ _ _ _ _ _ _ => dts_nil, fun s H C cl fp x hx _ => he s H C cl fp x hx⟩
  refine dss_setLc i hN hi L ?_ hy hyl hsw hc hs
  rw [filt_true]
  exact h
end
end
end SQ
end
section
set_option maxHeartbeats 4000000
namespace SQ
open PySem PySem.Spec PyProof.Rows L2 StX
noncomputable section

/-! ### instances in the making -/
def oIn (C : Addr) (ns : List Str) (Ps : List VP) : OC := fun u H => ∃ dx us, u = .ins C dx (ns.zip us) ∧ Paired (fun P v => Bx P v H) Ps us ∧ ns.length = us.length
theorem putF_new : ∀ {ns : List Str} {us : List V} {f : Str} {v : V}, ns.length = us.length → f ∉ ns → putF f v (ns.zip us) = (ns ++ [f]).zip (us ++ [v])
  | [], [], f, v, _, _ => rfl
  | n :: ns, u :: us, f, v, h, hf => by
    have ne : ¬ n = f := fun e => hf (by subst e; exact List.mem_cons_self)
    show (if n = f then (n, v) :: ns.zip us else (n, u) :: putF f v (ns.zip us)) = (n, u) :: (ns ++ [f]).zip (us ++ [v])
    rw [if_neg ne, putF_new (by simpa using h) (fun z => hf (List.mem_cons_of_mem _ z))]
section
variable {X : Cx} {G : Gm} {W W' : Ow} {e a b : Expr} {es : List Expr} {P P1 P2 : VP} {Ps Qs Rs : List VP} {pos pos' apos cpos p sp_ : Pos} {k L : Nat} {D : DEn} {rest : List Stmt} {C q : Addr} {ns : List Str} {m x : Str}
theorem own_in {c : Ct} {s : St} {H : Hp} (S : StOk c G W s H) (hq : (q, oIn C ns Qs) ∈ W) : ∃ dx us, H q = some (.ins C dx (ns.zip us)) ∧ Paired (fun P v => Bx P v (vis c W H)) Qs us ∧ ns.length = us.length := by
  obtain ⟨u, hu, hc⟩ := S.owned hq
  obtain ⟨dx, us, rfl, r, l⟩ := hc _ (Same.refl _)
  exact ⟨dx, us, hu, r, l⟩
/-- q.m = e, a new field -/
theorem dss_fldO (c0 : Cls X.K C) (na : NoAttr X.K C m) (hq : (q, oIn C ns Qs) ∈ W) (ha : DE X G W a (is (.ref q))) (he : DE X G W e P) (hm : m ∉ ns) (h : DSs X G (putO W q (oIn C (ns ++ [m]) (Qs ++ [P]))) rest D) (hl : ns.length < 900 := by decide)
    (hs : swapsWith e (some (.Attribute a m pos')) pos.line X.env = pure false := by rfl) : DSs X G W (.Assign [.Attribute a m pos'] e pos :: rest) D :=
  dss_cons (PS.to (ps_fld (ta := tD G W W (is (.ref q))) (tv := tD G W W P) ha he hs) fun E s H ⟨c, S, eo⟩ => ⟨c, S, fun v0 H0 S0 e0 b0 => ⟨c, S0, fun v1 H1 S1 e1 b1 => by
    cases b1.eq
    obtain ⟨dx, us, hu, r, l⟩ := own_in S1 hq
    refine ⟨q, C, dx, ns.zip us, rfl, hu, c0, na, by rw [List.length_zip]; omega, ?_⟩
    rw [putF_new l hm]
    obtain ⟨a1, a2⟩ := S1.put (q := q) (C := oIn C (ns ++ [m]) (Qs ++ [P])) (o := .ins C dx ((ns ++ [m]).zip (us ++ [v0]))) (inO.mem hq) fun H' e' => ⟨dx, _, rfl, Paired.snoc (bxs_mono e' r) ((b0.mono e1).mono e'), by rw [List.length_append, List.length_append, l]; rfl⟩
    exact eo.nx _ _ _ _ h a1⟩⟩)
/-- q.m, q owned -/
theorem de_fldO (i : Nat) (c0 : Cls X.K C) (na : NoAttr X.K C m) (hq : (q, oIn C ns Qs) ∈ W) (ha : DE X G W a (is (.ref q))) (hi : ns.findIdx? (fun n => m == n) = some i := by decide +kernel) (hP : Qs[i]? = some P := by rfl)
    (hb : attributeBase a m X.env (eval a X.env) = eval a X.env := by rfl) : DE X G W (.Attribute a m pos) P := PE.to (pe_fld ha hb) fun s H Q ⟨c, S, kq⟩ => ⟨c, S, fun v H1 S1 e1 b1 => by
  cases b1.eq
  obtain ⟨dx, us, hu, r, l⟩ := own_in S1 hq
  obtain ⟨u, hu2, bu⟩ := paired_at r hP
  exact ⟨q, C, dx, ns.zip us, u, rfl, hu, c0, na, lk_zip hi hu2, kq u H1 S1 e1 bu⟩⟩

/-! ### making an instance -/
/-- the __init__ of the class at C: with arguments Ps it leaves the fields ns: Qs -/
structure IniG (prog : Program) (w : World) (K : PySem.W.Frag) (mg : Str → Option Value) (base : Heap) (C : Addr) (L : Nat) (Ps : List VP) (ns : List Str) (Qs : List VP) : Prop where
  ex : ∃ f, Mk K C f ∧ ∀ x, FnR prog w K mg base CX0 L f (SpF (is (.ref x) :: Ps) [(x, oIn C [] [])] [(x, oIn C ns Qs)] (is .non))
theorem fnr_ex {prog : Program} {w : World} {K : PySem.W.Frag} {mg : Str → Option Value} {base : Heap} {f : Addr} {α : Type} {sp : α → Sp} (h : ∀ x, FnR prog w K mg base CX0 L f (sp x)) : FnR prog w K mg base CX0 L f (fun vs H Q E => ∃ x, sp x vs H Q E) :=
  fun A outer s H us vs Q E hr e0 r ⟨x, hx⟩ => h x A outer s H us vs Q E hr e0 r hx
theorem mk_use {c : Ct} {s : St} {H : Hp} {vs : List V} {Q : VK} (S : StOk c G W s H) (r : Paired (fun P v => Bx P v (vis c W H)) Ps vs)
    (k : ∀ v H', StOk c G W s H' → Same (vis c W H) (vis c W H') → Bx (rIn C ns Qs) v (vis c W H') → Q v H') {x dx : Addr} (hx : H x = none) (hdx : H dx = none) (ne : dx ≠ x) :
    SpF (is (.ref x) :: Ps) [(x, oIn C [] [])] [(x, oIn C ns Qs)] (is .non) (V.ref x :: vs) (upd (upd H dx (.own x)) x (.ins C dx [])) (fun v H2 => v = .non ∧ Q (.ref x) H2) E0 := by
  have s1 : Same H (upd H dx (.own x)) := Same.new hdx
  have S1 := S.same s1
  have hx1 : (upd H dx (.own x)) x = none := by rw [upd_ne ne.symm]; exact hx
  obtain ⟨S2, e2⟩ := S1.newN hx1 (C := oIn C [] []) (o := .ins C dx []) fun H' e' => ⟨dx, [], rfl, .nil, rfl⟩
  have ee : Same (vis c W H) (vis c ((x, oIn C [] []) :: W) (upd (upd H dx (.own x)) x (.ins C dx []))) := (vis_same s1).trans e2
  have nx := (List.nodup_cons.mp S2.nd).1
  refine spf_use (W1 := (x, oIn C ns Qs) :: W) S2 (.cons bx_is (bxs_mono ee r)) (fun p hp => by rw [List.mem_singleton.mp hp]; exact List.mem_cons_self) (by simp) rfl rfl (fun b D hb => ?_) fun v H' S' e' b => ?_
  · rcases List.mem_cons.mp hb with z | z
    · exact .inl (List.mem_singleton.mpr z)
    · refine .inr ⟨List.mem_cons_of_mem _ z, fun i => nx ?_⟩
      have : b = x := by simpa [inO] using i
      subst this
      exact inO.mem z
  · refine ⟨b.eq, ?_⟩
    obtain ⟨dy, us, hu, ru, lu⟩ := own_in S' List.mem_cons_self
    have nx' := (List.nodup_cons.mp S'.nd).1
    have sv : Same (vis c ((x, oIn C ns Qs) :: W) H') (vis c W H') := vis_drop fun b z => List.mem_cons_of_mem _ z
    have Sd := S'.drop (W' := W) (fun _ h => List.mem_cons_of_mem _ h) (List.nodup_cons.mp S'.nd).2
    exact k _ H' Sd ((ee.trans e').trans sv) (bx_in (hid_some.mpr ⟨fun z => z.elim (S'.dj x (inO.mem List.mem_cons_self)) nx', hu⟩) (bxs_mono sv ru) lu)
theorem pe_nameC {tc : TE} {t : TA} {f : Addr} {sp : Sp} (M : Mk X.K C f) (F : FnR X.prog X.w X.K X.mg X.base CX0 k f sp) (hr : Room (k + 1) X.A) (hc : PE X (.Name x p) tc) (ha : PA X (e :: es) t)
    (he : starEach (e :: es) X.env = (false, eval e X.env) :: starEach es X.env := by rfl) (hpl : (backTo pos (starEach es X.env)).any (·.1) = false := by rfl) :
    PE X (.Call (.Name x p) (e :: es) [] pos) (fun σ H Q => tc σ H fun v H1 => v = .ref C ∧ t σ H1 fun vs H2 => ∀ x dx, H2 x = none → H2 dx = none → dx ≠ x → sp (V.ref x :: vs) (upd (upd H2 dx (.own x)) x (.ins C dx [])) (fun v H2 => v = .non ∧ Q (.ref x) H2) E0) := by
  refine ⟨fun pins s σ H Q I h => ?_⟩
  refine wpAny_Call_Name_kw (thn (hc.run pins s σ H _ I h) fun u s0 ⟨v, H0, I0, r0, ev, q0⟩ => ?_)
  subst ev
  cases r0
  refine PySem.W.callWith_K (h₀ := X.base) I0.ok.mod.kin M.kp (thn (ha.run pos pins s0 σ H0 _ I0 q0) fun us s1 ⟨vs, H1, I1, r, q⟩ => ⟨I1.kIn, ?_⟩) he hpl
  exact run_makeR M F hr pass0 I1 r q
theorem pe_nameC2 {tc : TE} {t : TA} {f : Addr} {sp : Sp} (M : Mk X.K C f) (F : FnR X.prog X.w X.K X.mg X.base CX0 k f sp) (hr : Room (k + 1) X.A) (hc : PE X (.Name x p) tc) (ha : PA X (e :: es) t)
    (he : starEach (e :: es) X.env = (false, eval e X.env) :: starEach es X.env := by rfl) (hst : (backTo pos (starEach es X.env)).any (·.1) = true := by rfl) :
    PE X (.Call (.Name x p) (e :: es) [] pos) (fun σ H Q => tc σ H fun v H1 => v = .ref C ∧ t σ H1 fun vs H2 => ∀ x dx, H2 x = none → H2 dx = none → dx ≠ x → sp (V.ref x :: vs) (upd (upd H2 dx (.own x)) x (.ins C dx [])) (fun v H2 => v = .non ∧ Q (.ref x) H2) E0) := by
  refine ⟨fun pins s σ H Q I h => ?_⟩
  refine wpAny_Call_Name_kw (thn (hc.run pins s σ H _ I h) fun u s0 ⟨v, H0, I0, r0, ev, q0⟩ => ?_)
  subst ev
  cases r0
  refine PySem.W.callWith_S2 (h₀ := X.base) I0.ok.mod.kin M.kp (thn (ha.run pos pins s0 σ H0 _ I0 q0) fun us s1 ⟨vs, H1, I1, r, q⟩ => ⟨I1.kIn, ?_⟩) he hst
  exact run_makeR M F hr pass0 I1 r q
theorem pe_nameC1 {tc te : TE} {f : Addr} {sp : Sp} (M : Mk X.K C f) (F : FnR X.prog X.w X.K X.mg X.base CX0 k f sp) (hr : Room (k + 1) X.A) (hc : PE X (.Name x p) tc) (he : PE X e te)
    (hst : starEach [.Starred e sp_] X.env = [(true, eval e X.env)] := by rfl) :
    PE X (.Call (.Name x p) [.Starred e sp_] [] pos) (fun σ H Q => tc σ H fun v H1 => v = .ref C ∧ te σ H1 fun y H2 => ∃ a vs, y = V.ref a ∧ (SqT X.K H2 a vs ∨ SqL X.K H2 a vs) ∧ ∀ x dx, H2 x = none → H2 dx = none → dx ≠ x → sp (V.ref x :: vs) (upd (upd H2 dx (.own x)) x (.ins C dx [])) (fun v H2 => v = .non ∧ Q (.ref x) H2) E0) := by
  refine ⟨fun pins s σ H Q I h => ?_⟩
  refine wpAny_Call_Name_kw (thn (hc.run pins s σ H _ I h) fun u s0 ⟨v, H0, I0, r0, ev, q0⟩ => ?_)
  subst ev
  cases r0
  refine PySem.W.callWith_S (h₀ := X.base) I0.ok.mod.kin M.kp (thn (he.run pins s0 σ H0 _ I0 q0) fun v s1 ⟨y, H1, I1, ry, a, xs, ey, hxs, q⟩ => ?_) hst
  subst ey
  obtain rfl : v = Value.ref a := ry
  exact star_any I1 hxs fun us s2 I2 rv => ⟨I2.kIn, run_makeR M F hr pass0 I2 rv q⟩
/-- C(e, ..) -/
theorem de_make (F : IniG X.prog X.w X.K X.mg X.base C L Ps ns Qs) (hr : Room (k + 1) X.A) (hc : DE X G W (.Name x p) (is (.ref C))) (ha : DA X G W (e :: es) Ps) (hl : L ≤ k := by decide)
    (he : starEach (e :: es) X.env = (false, eval e X.env) :: starEach es X.env := by rfl) (hpl : (backTo pos (starEach es X.env)).any (·.1) = false := by rfl) : DE X G W (.Call (.Name x p) (e :: es) [] pos) (rIn C ns Qs) := by
  obtain ⟨f, M, F⟩ := F.ex
  exact PE.to (pe_nameC M ((fnr_ex F).mono hl) hr hc ha he hpl) fun s H Q ⟨c, S, kq⟩ => ⟨c, S, fun v H1 S1 e1 b1 => ⟨b1.eq, c, S1, fun vs H2 S2 e2 b2 x dx hx hdx ne => ⟨x, mk_use S2 b2 (fun v H3 S3 e3 b3 => kq v H3 S3 ((e1.trans e2).trans e3) b3) hx hdx ne⟩⟩⟩
/-- C(e, .., *y) -/
theorem da_star (he : DE X G W e (rLi X.K Ps)) (hr : DA X G W es Qs) (hs : starEach (.Starred e p :: es) X.env = (true, eval e X.env) :: starEach es X.env := by rfl) : DA X G W (.Starred e p :: es) (Ps ++ Qs) :=
  PA.to (pa_star he hr hs) fun s H Q ⟨c, S, kq⟩ => ⟨c, S, fun v H1 S1 e1 b1 => by
    obtain ⟨a, us, rfl, hq, r⟩ := b1.here
    exact ⟨a, us, rfl, .inr (Same.lsq vis_sub hq), c, S1, fun vs H2 S2 e2 b2 => kq _ H2 S2 (e1.trans e2) (paired_app (bxs_mono e2 r) b2)⟩⟩
theorem de_make2 (F : IniG X.prog X.w X.K X.mg X.base C L Ps ns Qs) (hr : Room (k + 1) X.A) (hc : DE X G W (.Name x p) (is (.ref C))) (ha : DA X G W (e :: es) Ps) (hl : L ≤ k := by decide)
    (he : starEach (e :: es) X.env = (false, eval e X.env) :: starEach es X.env := by rfl) (hst : (backTo pos (starEach es X.env)).any (·.1) = true := by rfl) : DE X G W (.Call (.Name x p) (e :: es) [] pos) (rIn C ns Qs) := by
  obtain ⟨f, M, F⟩ := F.ex
  exact PE.to (pe_nameC2 M ((fnr_ex F).mono hl) hr hc ha he hst) fun s H Q ⟨c, S, kq⟩ => ⟨c, S, fun v H1 S1 e1 b1 => ⟨b1.eq, c, S1, fun vs H2 S2 e2 b2 x dx hx hdx ne => ⟨x, mk_use S2 b2 (fun v H3 S3 e3 b3 => kq v H3 S3 ((e1.trans e2).trans e3) b3) hx hdx ne⟩⟩⟩
theorem de_make1 (F : IniG X.prog X.w X.K X.mg X.base C L Ps ns Qs) (hr : Room (k + 1) X.A) (hc : DE X G W (.Name x p) (is (.ref C))) (he : DE X G W e (rLi X.K Ps)) (hl : L ≤ k := by decide)
    (hst : starEach [.Starred e sp_] X.env = [(true, eval e X.env)] := by rfl) : DE X G W (.Call (.Name x p) [.Starred e sp_] [] pos) (rIn C ns Qs) := by
  obtain ⟨f, M, F⟩ := F.ex
  exact PE.to (pe_nameC1 M ((fnr_ex F).mono hl) hr hc he hst) fun s H Q ⟨c, S, kq⟩ => ⟨c, S, fun v H1 S1 e1 b1 => ⟨b1.eq, c, S1, fun y H2 S2 e2 b2 => by
    obtain ⟨a, us, rfl, hq, r⟩ := b2.here
    exact ⟨a, us, rfl, .inr (Same.lsq vis_sub hq), fun x dx hx hdx ne => ⟨x, mk_use S2 r (fun v H3 S3 e3 b3 => kq v H3 S3 ((e1.trans e2).trans e3) b3) hx hdx ne⟩⟩⟩⟩
/-- keywords -/
abbrev DKw (X : Cx) (G : Gm) (W : Ow) (kws : List Keyword) (Ps : List VP) : Prop := L2.PK X kws (tA G W Ps)
theorem dk_nil : DKw X G W [] [] := ⟨fun pos pins s σ H Q I ⟨c, S, kq⟩ => pk_nil.run pos pins s σ H Q I (kq [] H S (Same.refl _) .nil)⟩
theorem dk_cons {nm : Option Str} {kpos : Pos} {kws : List Keyword} (ha : DE X G W e P) (hr : DKw X G W kws Ps) : DKw X G W (⟨nm, e, kpos⟩ :: kws) (P :: Ps) :=
  ⟨fun pos pins s σ H Q I ⟨c, S, kq⟩ => (pk_cons ha hr).run pos pins s σ H Q I ⟨c, S, fun v H1 S1 e1 b1 => ⟨c, S1, fun vs H2 S2 e2 b2 => kq (v :: vs) H2 S2 (e1.trans e2) (.cons (b1.mono e2) b2)⟩⟩⟩
theorem de_makeK {kws : List Keyword} {f : Addr} {fd : FuncData} {ps ks : List Str} {n : Nat} {g : List Value → List Value → List Value} {gV : List V → List V → List V} {sp : Addr → Sp} (M : Mk X.K C f) (hg : Gl X x) (hm : X.mg x = some (.ref C))
    (F : FnOk X.prog X.w X.K X.mg X.base CX0 k f fd ps (fun vs H Q E => ∃ x, SpF (is (.ref x) :: (Ps ++ Rs)) [(x, oIn C [] [])] [(x, oIn C ns Qs)] (is .non) vs H Q E)) (hr : Room (k + 1) X.A) (hb : KBn X.K fd ps (n + 1) ks g gV) (hgV : ∀ vs zs, gV vs zs = vs ++ zs)
    (ha : DA X G W (e :: es) Ps) (hkw : DKw X G W kws Rs) (hn : Ps.length = n := by rfl) (hn2 : Rs.length = ks.length := by rfl)
    (hall : (backToKw pos (keywordEach kws X.env)).all (·.1.isSome) = true := by rfl) (hks : (backToKw pos (keywordEach kws X.env)).filterMap (·.1) = ks := by rfl) (hdb : (x == ("__debug__" : Str)) = false := by decide)
    (he : starEach (e :: es) X.env = (false, eval e X.env) :: starEach es X.env := by rfl) (hpl : ((backTo pos (starEach (e :: es) X.env)).any (·.1) || (backToKw pos (keywordEach kws X.env)).any (·.1.isNone)) = false := by rfl) :
    DE X G W (.Call (.Name x p) (e :: es) kws pos) (rIn C ns Qs) :=
  PE.to (pe_makeK M F hr hg hm hb pass0 ha hkw hall hks hdb he hpl) fun s H Q ⟨c, S, kq⟩ => ⟨c, S, fun vs H1 S1 e1 b1 => ⟨c, S1, fun zs H2 S2 e2 b2 => ⟨by rw [← Paired.length b1]; exact hn, by rw [← Paired.length b2]; exact hn2, fun x dx hx hdx ne => by
    rw [hgV]
    exact ⟨x, mk_use S2 (paired_app (bxs_mono e2 b1) b2) (fun v H3 S3 e3 b3 => kq v H3 S3 ((e1.trans e2).trans e3) b3) hx hdx ne⟩⟩⟩⟩
end

/-! ### methods' promises -/
section
variable {P : Program} {w : World} {K : PySem.W.Frag} {mg : Str → Option Value} {base : Heap} {nm qual : Str} {st : Stmt} {N ps : List Str} {k : Nat} {Ps Rs : List VP} {W W' : Ow} {R : VP} {f : Addr} {fd : FuncData}
theorem fnr_of (F : FunD K nm qual (defArgs st) (defBody st) (defScope st) [] [] f fd) (S : FnScope N ps (defScope st)) (hl : Ps.length = ps.length)
    (hb : ∀ (kV doc pm : Value) (an : Option Addr) (cdv ct : Value) (us : List Value), us.length = ps.length → bindArgs (PySem.W.fnOf nm qual (defArgs st) (defBody st) (defScope st) .none kV doc pm an cdv ct) ⟨us, []⟩ = pure (ps.zip us))
    (hbody : ∀ (cdv : Value) (A : Around) (outer : List Env) (s : Shared) (H : Hp) (E : XK), Room k (A.deeper (envOfC qual (defScope st) s.heap.objs.size f cdv)) →
      DSs (Xb P w K mg base N qual (defScope st) f cdv A outer s H E) (entry N Ps) W (defBody st) (retD R W')) : FnR P w K mg base CX0 (k + 1) f (SpF Ps W W' R) := by
  have z := (fnok_of (P := P) (w := w) (mg := mg) (base := base) F S hl hbody).raw (F.bindsN fun kV doc pm an cdv ct us hu => hb kV doc pm an cdv ct us hu) .nil
  exact z.imp fun vs H Q E h => by rw [List.append_nil]; exact h
/-- a def f(a, .., *b) -/
theorem fnr_star {pv : Str} (F : FunD K nm qual (defArgs st) (defBody st) (defScope st) [] [] f fd) (S : FnScope N (ps ++ [pv]) (defScope st)) (hl : Ps.length = ps.length) (hz : Rs.length ≤ 100000)
    (hb : ∀ (kV doc pm : Value) (an : Option Addr) (cdv ct : Value) (us rest : List Value), us.length = ps.length → bindArgs (PySem.W.fnOf nm qual (defArgs st) (defBody st) (defScope st) .none kV doc pm an cdv ct) ⟨us ++ rest, []⟩ = (newTuple rest >>= fun t => pure (ps.zip us ++ [(pv, t)])))
    (hbody : ∀ (cdv : Value) (A : Around) (outer : List Env) (s : Shared) (H : Hp) (E : XK), Room k (A.deeper (envOfC qual (defScope st) s.heap.objs.size f cdv)) →
      DSs (Xb P w K mg base N qual (defScope st) f cdv A outer s H E) (entry N (Ps ++ [rTu K Rs])) W (defBody st) (retD R W')) : FnR P w K mg base CX0 (k + 1) f (SpF (Ps ++ Rs) W W' R) := by
  obtain ⟨oc, od, dV, kV, doc, pm, an, cdv, ct, osl, rfl, lk, hcd, hD, hK⟩ := F.ex
  have e0 : dV = .none := by
    rcases hD with ⟨_, e⟩ | ⟨e, _⟩
    · exact e
    · exact absurd rfl e
  subst e0
  refine (fn_star (CX := CX0) (ps := ps) (pv := pv) (sp := SpF (Ps ++ [rTu K Rs]) W W' R) (k := k) lk hcd S cxUp_none (fun us rest hu => hb kV doc pm an cdv ct us rest hu) fun A outer s H vs Q E hr h => ?_).imp fun vs H Q E h => ?_
  · obtain ⟨c, St0, kq⟩ := h
    refine ⟨_, PSs.nox (hbody cdv A outer s H E hr), c, St0.envOf (entry_ok St0.env), ?_, ?_, ?_, ?_⟩
    · rintro G2 W2 s2 H2 ⟨h1, h2, h3⟩ S2
      exact kq .non H2 G2 s2 (S2.drop h2 h3) (h1 _)
    · rintro P' G2 W2 s2 v H2 ⟨h1, h2, h3⟩ S2 b
      refine kq v H2 G2 s2 (S2.drop h2 h3) ((h1 v _ b).mono (vis_drop fun b q => ?_))
      obtain ⟨C, hC⟩ := q.ex
      exact inO.mem (h2 _ hC)
    · intro G2 W2 s2 H2 h
      exact h.elim
    · intro G2 W2 s2 H2 h
      exact h.elim
  · obtain ⟨c, S0, kq⟩ := h
    have pr := of_env S0.env
    have sp : ∀ {Ps Rs : List VP} {vs : List V} {Hv : Hp}, Paired (fun P u => Bx P u Hv) (Ps ++ Rs) vs → ∃ ws rest, vs = ws ++ rest ∧ Paired (fun P u => Bx P u Hv) Ps ws ∧ Paired (fun P u => Bx P u Hv) Rs rest := by
      intro Ps
      induction Ps with
      | nil => intro Rs vs Hv h; exact ⟨[], vs, rfl, .nil, h⟩
      | cons P Ps ih =>
        intro Rs vs Hv h
        cases h with
        | cons a r =>
          obtain ⟨ws, rest, e, h1, h2⟩ := ih r
          exact ⟨_ :: ws, rest, by rw [e]; rfl, .cons a h1, h2⟩
    obtain ⟨ws, rest, rfl, h1, h2⟩ := sp pr
    refine ⟨ws, rest, rfl, by rw [← Paired.length h1]; exact hl, by rw [← Paired.length h2]; exact sz_of hz, fun p np => ?_⟩
    have S1 := S0.same (Same.new (o := .tup rest) np)
    have ee := vis_same (c := c) (W := W) (Same.new (o := .tup rest) np)
    exact ⟨c, S1.envOf (env_of (paired_app (bxs_mono ee h1) (.cons (bx_tu (SqT.of (S0.newV np)) (bxs_mono ee h2)) .nil))), kq⟩
end
end
end SQ
end
section
set_option maxHeartbeats 4000000
namespace SQ
open PySem PySem.Spec PyProof.Rows L2 StX ClX
noncomputable section

theorem boot_len : bootBuiltins "len" = some (.builtin "len") := by decide +kernel
theorem boot_min : bootBuiltins "min" = some (.builtin "min") := by decide +kernel
theorem boot_max : bootBuiltins "max" = some (.builtin "max") := by decide +kernel
theorem boot_abs : bootBuiltins "abs" = some (.builtin "abs") := by decide +kernel
theorem boot_sum : bootBuiltins "sum" = some (.builtin "sum") := by decide +kernel
theorem boot_all : bootBuiltins "all" = some (.builtin "all") := by decide +kernel
theorem boot_any : bootBuiltins "any" = some (.builtin "any") := by decide +kernel
theorem boot_sorted : bootBuiltins "sorted" = some (.builtin "sorted") := by decide +kernel
theorem boot_divmod : bootBuiltins "divmod" = some (.builtin "divmod") := by decide +kernel
theorem boot_isinstance : bootBuiltins "isinstance" = some (.builtin "isinstance") := by decide +kernel
theorem boot_int : bootBuiltins "int" = some (.type "int") := by decide +kernel
theorem boot_bool : bootBuiltins "bool" = some (.type "bool") := by decide +kernel
theorem boot_str : bootBuiltins "str" = some (.type "str") := by decide +kernel
theorem boot_tuple : bootBuiltins "tuple" = some (.type "tuple") := by decide +kernel
theorem boot_set : bootBuiltins "set" = some (.type "set") := by decide +kernel

section
variable {X : Cx} {G : Gm} {W W' : Ow} {e a b : Expr} {es : List Expr} {P P1 P2 : VP} {Ps Qs Rs : List VP} {pos pos' apos cpos p sp_ : Pos} {k L : Nat} {D : DEn} {rest body : List Stmt} {C q : Addr} {ns : List Str} {m x : Str}
/-- a built-in type as a value -/
theorem de_bty {n : String} (hm : X.mg x = none) (hv : bootBuiltins x = some (.type n)) (hg : Gl X x := by rfl) (hn : x ≠ "__name__" := by decide) (hd : (x == ("__debug__" : Str)) = false := by decide) : DE X G W (.Name x pos) (is (.ty n)) := de_c (pe_bltn hg hm hv rfl hn hd)
/-- a, b, .. = a list -/
theorem dg_lst {js : List Nat} {up : Gm → Gm} {kk : Nat} (h : DGs X es Ps js up) (hc : X.calm = true := by rfl) (hn : (assignEach es X.env).length = Ps.length := by rfl) (hst : (assignEach es X.env).findIdx? (·.1) = none := by rfl) : DG X (.Tuple es kk pos) (rLi X.K Ps) js up :=
  PG.to (pg_unl hc h hn hst) fun v s H Q ⟨c, G, W, S, b, k⟩ => by
    obtain ⟨p, vs, ev, hq, r⟩ := b.here
    exact ⟨p, vs, ev, Same.lsq vis_sub hq, (Paired.length r).symm, c, G, W, S, r, k⟩
/-- a tuple of plain values as target's value -/
theorem dg_tupV {js : List Nat} {up : Gm → Gm} {kk : Nat} {xs : List V} (h : DGs X es (xs.map is) js up) (hc : X.calm = true := by rfl) (hn : (assignEach es X.env).length = (xs.map is).length := by rfl) (hst : (assignEach es X.env).findIdx? (·.1) = none := by rfl) : DG X (.Tuple es kk pos) (rTr xs) js up :=
  PG.to (dg_tup (X := X) (pos := pos) (kk := kk) h hc hn hst) fun v s H Q ⟨c, G, W, S, b, k⟩ => ⟨c, G, W, S, tr_tu b, k⟩
theorem di_tupV {tg : Expr} {xs : List V} (h : DE X G W e (rTr xs)) : DI X G W tg e (xs.map is) := di_tup (de_to h fun _ _ b => tr_tu b)
/-- a tuple of the module -/
def KTup (K : PySem.W.Frag) (a : Addr) (xs : List V) : Prop := ∃ (o : Obj) (its : Array Value) (n : Nat), K.lookup a = some o ∧ o.cls = .type "tuple" ∧ o.data = .seq its n ∧ its.size ≤ sizeLine ∧ Vals xs its.toList
theorem de_ktup {xs : List V} (hm : X.mg x = some (.ref q)) (h : KTup X.K q xs) (hg : Gl X x := by rfl) (hd : (x == ("__debug__" : Str)) = false := by decide) : DE X G W (.Name x pos) (rTu X.K (xs.map is)) :=
  de_to (de_glob (v := .ref q) hm rfl hg hd) fun v H b => by
    rw [b.eq]
    exact bx_tu (.inr h) (is_bxs xs)
/-- isinstance of an own class -/
structure IsC (K : PySem.W.Frag) (C : Addr) : Prop where
  ha : PySem.W.findIn K (.ref C) "__class__" = some (some (.builtin "object.__class__"))
  hn : PySem.W.specialIn K (.builtin "object.__class__") "__get__" = some (some (.builtin "getset_descriptor.__get__"))
  htk : PySem.W.takesIn K (.builtin "object.__class__") = some true
  hm : PySem.W.mroIn K C (.type "object") = some true
  me : PySem.W.kitOne K (.ref C) (.ref C) = some true
theorem ca_isiC (c : Cls X.K C) (i : IsC X.K C) : CaD X W (.builtin "isinstance") [rIn C ns Ps, is (.ref C)] (is (.bl true)) := ⟨_, call_isi, fun c0 G s H vs Q S b k => by
  cases b with
  | cons b1 q =>
    cases q with
    | cons b2 q =>
      cases q
      obtain ⟨a, dx, us, rfl, h, _, _⟩ := b1.here
      rw [b2.eq]
      exact ⟨.ref a, .ref C, .ref C, .ref C, true, rfl, .own C, .base (.ins (vis_sub _ _ h) c i.ha i.hn i.htk i.hm), i.me, k _ H (Same.refl H) bx_is⟩⟩
/-- list(range(a, b)) -/
theorem de_listRg {i j : Int} {rp rpos : Pos} (hm1 : X.mg "list" = none) (hm2 : X.mg "range" = none) (ha : DE X G W a (is (.int i))) (hb : DE X G W b (is (.int j))) (h : RgOk i j) (hc : X.calm = true := by rfl) (hg1 : Gl X "list" := by rfl) (hg2 : Gl X "range" := by rfl)
    (na : starEach [a, b] X.env = (false, eval a X.env) :: starEach [b] X.env := by rfl) (nb : starEach [b] X.env = (false, eval b X.env) :: starEach [] X.env := by rfl) (hp : (backTo rpos (starEach [b] X.env)).any (·.1) = false := by rfl)
    (nc : starEach [.Call (.Name "range" rp) [a, b] [] rpos] X.env = (false, eval (.Call (.Name "range" rp) [a, b] [] rpos) X.env) :: starEach [] X.env := by rfl) :
    DE X G W (.Call (.Name "list" p) [.Call (.Name "range" rp) [a, b] [] rpos] [] pos) (rLi X.K (SQ.rgV i (j - i).toNat)) :=
  PE.to (pe_listRg hc hg1 hm1 (prg_2 hg2 hm2 ha hb na nb hp) nc) fun s H Q ⟨c, S, kq⟩ => ⟨c, S, fun v1 H1 S1 e1 b1 => ⟨c, S1, fun v2 H2 S2 e2 b2 => ⟨i, j, b1.eq, b2.eq, h, fun q hq => by
    have e : SQ.rgV i (j - i).toNat = (L2.rgV i j).map is := by
      unfold SQ.rgV L2.rgV
      rw [List.map_map]
      rfl
    refine kq _ _ (S2.same (Same.new hq)) ((e1.trans e2).trans (vis_same (Same.new hq))) ?_
    rw [e]
    exact bx_li (S2.newV hq) (is_bxs _)⟩⟩⟩
/-- try that raises nothing -/
theorem dss_try {h₀ : ExceptHandler} {hs : List ExceptHandler} (h : DSs X.nox G W body { D with nx := fun G' W' => DSs X G' W' rest D }) : DSs X G W (.Try body (h₀ :: hs) [] [] pos :: rest) D := dss_cons (ps_try_thru0 h)
/-- a classmethod -/
structure CMG (prog : Program) (w : World) (K : PySem.W.Frag) (mg : Str → Option Value) (base : Heap) (C : Addr) (m : Str) (L : Nat) (Ps : List VP) (P : VP) : Prop where
  ex : ∃ mc pr g, CRead K C mc ∧ CMet K C mc m pr g ∧ FnR prog w K mg base CX0 L g (SpF (is (.ref C) :: Ps) [] [] P)
theorem de_cmeth (F : CMG X.prog X.w X.K X.mg X.base C m L Ps P) (hr : Room k X.A) (ho : DE X G W a (is (.ref C))) (ha : DA X G W (e :: es) Ps) (hl : L ≤ k := by decide) {pl : Sem Bool}
    (hst : starEach (e :: es) X.env = (false, eval e X.env) :: starEach es X.env := by rfl) (hpl : (backTo pos (starEach es X.env)).any (·.1) = false := by rfl)
    (ht : eval (.Call (.Attribute a m apos) (e :: es) [] pos) X.env = (do
      let ov ← eval a X.env
      standAt apos.atName
      let (f, first) ← holding [ov] (getMethod ov m pl)
      callWith pos f first (backTo pos (starEach (e :: es) X.env)) (backToKw pos (keywordEach [] X.env))) := by rfl) : DE X G W (.Call (.Attribute a m apos) (e :: es) [] pos) P := by
  obtain ⟨mc, pr, g, h1, h2, F⟩ := F.ex
  exact PE.to (pe_cmeth (pl := pl) ho h1 h2 (F.mono hl) hr pass0 ha hst hpl ht) fun s H Q ⟨c0, S, q⟩ => ⟨c0, S, fun v H1 S1 e1 b1 => ⟨b1.eq, c0, S1, fun vs H2 S2 e2 b2 => spf_use0 S2 (.cons bx_is b2) fun v2 H3 S3 e3 b3 => q v2 H3 S3 ((e1.trans e2).trans e3) b3⟩⟩

/-! ### x in o, o an own instance with __contains__ -/
theorem op_inOwn {f : Addr} {sp : Sp} (hs : PySem.W.findIn X.K (.ref C) "__contains__" = some (some (.ref f))) (hf : PySem.W.isFn X.K (.ref f) = true) (F : FnR X.prog X.w X.K X.mg X.base CX0 k f sp) (hr : Room k X.A) :
    OpR X (compareOp .In) (fun x y H Q => ∃ p dx fs, y = .ref p ∧ H p = some (.ins C dx fs) ∧ sp [.ref p, x] H (fun r H' => ∃ b, r = .bl b ∧ Q (.bl b) H') E0) := by
  intro pins s σ H x y v u Q I rx ry h
  obtain ⟨p, dx, fs, rfl, hp, q⟩ := h
  cases ry
  obtain ⟨mA, O, _⟩ := ins_get I.hok hp
  obtain ⟨od, J, _⟩ := O.look
  have Xk := I.kIn
  show wpAny (model X.prog X.w) X.A (compareOp .In v (.ref p)) (EP X pins σ Q) X.xe s
  refine wpAny_bind ?_
  unfold contains
  refine wpAny_holding (wpAny_bind (wpAny_bind (J.type.here ((PySem.W.looks_findIn Xk hs).here ?_))))
  rw [if_neg (by simp)]
  refine wpAny_bind (PySem.W.unlessNone_K Xk J hs hf ?_)
  refine wpAny_mono (wpAny_call (run_fnR F hr pass0 I (us := [Value.ref p, v]) (vs := [V.ref p, x]) (.cons rfl (.cons rx .nil)) q)) (fun r s' hq => ?_) fun _ _ z => z
  obtain ⟨vr, H', I', rr, b, rfl, q'⟩ := hq
  obtain rfl : r = Value.bool b := rr
  exact wpAny_truthy_bool (wpAny_pure ⟨.bl b, H', I', rfl, q'⟩)
theorem dt_inOwn {b0 : Bool} (F : MtG X.prog X.w X.K X.mg X.base C "__contains__" L [rIn C ns Qs, P] [] [] (is (.bl b0))) (hr : Room k X.A) (ha : DE X G W a P) (hb : DE X G W b (rIn C ns Qs)) (hl : L ≤ k := by decide) (hm : behindInMarks .In b = false := by first | exact nomark _ | rfl) :
    DT X G W (.Compare a [.In] [b] pos) b0 := by
  obtain ⟨f, hm2, F⟩ := F.ex
  refine PT.to (pt_cmpR (op_inOwn hm2.at_ hm2.fn (F.mono hl) hr) ha hb hm) fun s H Q ⟨c, S, kq⟩ => ⟨c, S, fun v1 H1 S1 e1 b1 => ⟨c, S1, fun v2 H2 S2 e2 b2 => ?_⟩⟩
  obtain ⟨p, dx, us, rfl, h, r, l⟩ := id b2.here
  exact ⟨p, dx, _, rfl, vis_sub _ _ h, spf_use0 S2 (.cons b2 (.cons (b1.mono e2) .nil)) fun v H' S' e' b' => ⟨b0, b'.eq, b0, rfl, kq H' S' ((e1.trans e2).trans e')⟩⟩
end
end
end SQ
end
section
set_option maxHeartbeats 4000000
namespace SQ
open PySem PySem.Spec PyProof.Rows
/-! ### len(set(texts)), texts that differ -/
section
variable {prog : Program} {w : World} {A : Around} {R : Result → Shared → Prop} {I : Addr} {fp wr : List Addr} {G : Array GenState → Array GenState → Prop} {n : Nat} {P : Nat → Value → Prop} {St : Nat → Shared → Prop}
theorem loopStrN (W : WalksS prog w A.in1 I fp wr G n P St) (S : Addr) (hSf : S ∉ fp) (xs : List Str) (hsz : xs.length = n) (hn1 : n ≤ 1000) (hnd : xs.Nodup)
    (hval : ∀ i v, P i v → ∃ t, v = .str (xs.getD i Str.empty) t) :
    ∀ (k i : Nat) (s : Shared), n - i = k → i ≤ n → St i s →
      s.heap.SetOf (PySem.strKind prog w) S (fun k' => (xs.take i).any (· == k')) i →
      (∀ s', Moved (S :: wr) G s s' → s'.heap.SetOf (PySem.strKind prog w) S (fun k' => (xs.take n).any (· == k')) n → R (.ok (.ret .none)) s') →
      codeAny (model prog w) A (.builtin "set.update.loop" ⟨[.ref S, .ref I], []⟩) R s := by
  have hSw : S ∉ wr := fun h => hSf (W.sub _ h)
  have hsub : ∀ b ∈ wr, b ∈ S :: wr := fun b hb => List.mem_cons_of_mem _ hb
  intro k
  induction k with
  | zero =>
    intro i s hk hi hst hS hR
    have hin : i = n := by omega
    subst hin
    refine codeAny_builtin PyProof.Rows.F.entry_set_update_loop ?_
    rw [Around.under_plainId PyProof.Rows.F.plain_set_update_loop _]
    show wpAny _ A.in1 (pyNext (.ref I) >>= _) _ _ s
    refine wpAny_bind (W.done s _ _ hst fun s' hm => ?_)
    show wpAny _ A.in1 (ret Value.none) _ _ s'
    exact wpAny_pure (hR s' (hm.mono hsub) (by
      obtain ⟨o, es, ep, t, ho, rest⟩ := hS
      exact ⟨o, es, ep, t, hm.heap S _ hSw ho, rest⟩))
  | succ k ih =>
    intro i s hk hi hst hS hR
    have hlt : i < n := by omega
    refine codeAny_builtin PyProof.Rows.F.entry_set_update_loop ?_
    rw [Around.under_plainId PyProof.Rows.F.plain_set_update_loop _]
    show wpAny _ A.in1 (pyNext (.ref I) >>= _) _ _ s
    refine wpAny_bind (W.item i s _ _ hlt hst fun v s' hP hst' hm => ?_)
    obtain ⟨t, rfl⟩ := hval i v hP
    have hS' : s'.heap.SetOf (PySem.strKind prog w) S (fun k' => (xs.take i).any (· == k')) i := by
      obtain ⟨o, es, ep, tb, ho, rest⟩ := hS
      exact ⟨o, es, ep, tb, hm.heap S _ hSw ho, rest⟩
    show wpAny _ A.in1 (holding [Value.str (xs.getD i Str.empty) t] (setAdd S (.str (xs.getD i Str.empty) t)) >>= _) _ _ s'
    refine wpAny_bind (wpAny_holding ?_)
    unfold setAdd
    refine wpAny_holding ?_
    refine wpAny_bind ((PySem.strKind prog w).pyHash (k := xs.getD i Str.empty) (strKind_is _ _ _ _) ?_)
    refine wpAny_setAddHashed_of (knd := PySem.strKind prog w) (s := { s' with toks := s'.toks + 1 }) (strKind_is _ _ _ _) rfl hS' (by unfold scanBound; omega) fun h' hsb hS2 => ?_
    have hSi : h'.SetOf (PySem.strKind prog w) S (fun k' => (xs.take (i + 1)).any (· == k')) (i + 1) := by
      have hxi : xs[i]? = some (xs.getD i Str.empty) := by rw [List.getD_eq_getElem?_getD, List.getElem?_eq_getElem (by omega)]; rfl
      have ht : xs.take (i + 1) = xs.take i ++ [xs.getD i Str.empty] := by rw [List.take_succ, hxi]; rfl
      have hno : ((xs.take i).any (· == xs.getD i Str.empty)) = false := by
        cases q : (xs.take i).any (· == xs.getD i Str.empty) with
        | false => rfl
        | true =>
          exfalso
          obtain ⟨y, hy, e⟩ := List.any_eq_true.mp q
          have e : y = xs.getD i Str.empty := by simpa using e
          obtain ⟨m, hm⟩ := List.getElem?_of_mem hy
          have hmi : m < i := by
            have := (List.getElem?_eq_some_iff.mp hm).1
            rw [List.length_take] at this
            omega
          rw [List.getElem?_take_of_lt hmi] at hm
          have hml : m < xs.length := (List.getElem?_eq_some_iff.mp hm).1
          have := (List.getElem?_inj hml hnd).mp (hm.trans (by rw [e, hxi]))
          omega
      refine SetOf_congr hS2 (fun k' => ?_) (by rw [hno]; rfl)
      rw [ht, List.any_append]
      show (_ || decide (k' = _)) = (_ || [xs.getD i Str.empty].any (· == k'))
      congr 1
      by_cases e : k' = xs.getD i Str.empty
      · rw [e]; simp
      · have hb : (xs.getD i Str.empty == k') = false := beq_eq_false_iff_ne.mpr fun h' => e h'.symm
        rw [List.any_cons, List.any_nil, Bool.or_false, hb]
        exact decide_eq_false e
    refine wpAny_pure ⟨plainId_quiet PyProof.Rows.F.plain_set_update_loop _, ih (i + 1) _ (by omega) hlt (W.frame _ s' _ _ hst' (Nat.le_succ _) fun b hb o e => ?_) hSi fun s'' hm'' hS'' => ?_⟩
    · rw [hsb.2 b (fun h : b = S => hSf (by rw [← h]; exact hb))]; exact e
    · refine hR s'' (Moved.trans W.gtrans ((hm.mono hsub).then_heap (Nat.le_succ _) fun b o hb e => ?_) hm'') hS''
      rw [hsb.2 b (fun h : b = S => hb (by rw [h]; exact List.mem_cons_self))]; exact e
end
section
variable {prog : Program} {w : World} {A : Around} {E : Value → Shared → Prop} {s : Shared}
theorem call_set_listN {l : Addr} {items : Array Value} {xs : List Str} {Q : Value → Shared → Prop}
    (hh : A.handled = none) (hl : s.heap.IsList l items) (hi : StrsAre items.toList xs) (hn1 : xs.length ≤ 1000) (hnd : xs.Nodup)
    (h : ∀ (h' : Heap) (tk : Nat), h'.SetOf (PySem.strKind prog w) s.heap.objs.size (fun k' => (xs.take items.size).any (· == k')) items.size →
      (∀ b o, b < s.heap.objs.size → s.heap.get? b = some o → h'.get? b = some o) → Q (.ref s.heap.objs.size) { s with heap := h', toks := tk }) :
    wpAny (model prog w) A (call (.type "set") [.ref l]) Q E s := by
  obtain ⟨c, tl, hmro⟩ := PySem.F.called_set.mro
  have hmade := PySem.F.called_set.made
  have hsub := PySem.F.called_set.sub
  refine wpAny_call (codeAny_of_tree ?_)
  show wpAny _ _ (callAny (.type "set") _) _ _ _
  refine wpAny_pure ⟨Code.quiet_builtin _ (by decide +kernel), codeAny_builtin PySem.F.entry_type_call ?_⟩
  rw [Around.under_plain (weight_type_call_type "set" [.ref l] []) rfl]
  have h1 := PySem.F.called_set.notType
  have h2 := PySem.F.called_set.canCreate
  have hct := PySem.F.typeCall_set_1 (.ref l)
  repeat (any_goals (first | assumption | wp_step))

  refine codeAny_mono (code_set_new_1 (.ref l) (E := E) (Q₁ := fun obj s₁ => ∃ led : Bool, obj = .ref s.heap.objs.size ∧ s₁ = { s with heap := s.heap.push { cls := .type "set", dict := none, data := .set #[] 0 (.fresh 0 0 led) } }) fun led => ⟨led, rfl, rfl⟩) fun r s₁ hr => ?_
  cases r with
  | error e => exact hr
  | ok fl =>
    cases fl with
    | ret obj =>
      obtain ⟨led, rfl, rfl⟩ := hr
      have hS : (s.heap.push { cls := .type "set", dict := none, data := .set #[] 0 (.fresh 0 0 led) }).get? s.heap.objs.size = some { cls := .type "set", dict := none, data := .set #[] 0 (.fresh 0 0 led) } := Heap.get?_push_size _ rfl
      have hT : Shared.TypeIs { s with heap := s.heap.push { cls := .type "set", dict := none, data := .set #[] 0 (.fresh 0 0 led) } } (.ref s.heap.objs.size) "set" := ⟨_, hS, rfl⟩
      have hli := PySem.F.called_set.init.lookup
      have hbi := PySem.F.called_set.init.bind (.ref s.heap.objs.size)
      repeat (any_goals (first | assumption | wp_step))

      refine codeAny_mono (codeAny_call_builtin (R := wants (fun r s₂ => r = .none ∧ ∃ h' tk, s₂ = { s with heap := h', toks := tk } ∧
          h'.SetOf (PySem.strKind prog w) s.heap.objs.size (fun k' => (xs.take items.size).any (· == k')) items.size ∧
          (∀ b o, b < s.heap.objs.size → s.heap.get? b = some o → h'.get? b = some o)) E) PySem.F.called_set.init.plain PySem.F.entry_set_init (check_set_init_1 hT ?_)) fun r₂ s₂ hr₂ => ?_
      · obtain ⟨ol, hol, hcl, nl, hdl⟩ := hl
        obtain ⟨ocls, odict, odata, oslots⟩ := ol
        simp only at hcl hdl
        subst hcl; subst hdl
        have hol' : (s.heap.push { cls := .type "set", dict := none, data := .set #[] 0 (.fresh 0 0 led) }).get? l = some { cls := .type "list", dict := odict, data := .seq items nl, slots := oslots } := Heap.get?_push_of_some _ hol
        have hsls := PySem.F.sub_list_set
        have hslf := PySem.F.sub_list_frozenset
        have hne : (Value.type "list" == Value.type "dict") = false := by decide
        have hl1 : (s.heap.push { cls := .type "set", dict := none, data := .set #[] 0 (.fresh 0 0 led) }).IsList l items := ⟨_, hol', rfl, nl, rfl⟩
        unfold Builtin.«set.__init__» noKeywords Builtin.Frozenset.updateFrom
        generalize hPI : pyIter = PI
        wp_walk
        subst hPI

        refine wpAny_pyIter_list hl1 ?_
        refine wpAny_bind (wpAny_runValue ?_)
        have hlS : l < s.heap.objs.size := Heap.lt_size hol
        have hh3 : A.in1.in1.in1.handled = none := by simp [hh]
        have hneI : l ≠ (s.heap.push { cls := .type "set", dict := none, data := .set #[] 0 (.fresh 0 0 led) }).objs.size := by
          rw [Heap.size_push]; exact Nat.ne_of_lt (Nat.lt_succ_of_lt hlS)
        have hSf : s.heap.objs.size ∉ [(s.heap.push { cls := .type "set", dict := none, data := .set #[] 0 (.fresh 0 0 led) }).objs.size, l] := by
          rw [Heap.size_push]; simp only [List.mem_cons, List.mem_singleton, List.not_mem_nil, or_false, not_or]
          exact ⟨Nat.ne_of_lt (Nat.lt_succ_self _), Nat.ne_of_gt hlS⟩
        have hsz : xs.length = items.size := by rw [← StrsAre.len_eq hi, Array.length_toList]
        have hval : ∀ (i : Nat) (v : Value), items[i]? = some v → ∃ t, v = .str (xs.getD i Str.empty) t := fun i v hv => SS.strs_at hi i v (by rw [Array.getElem?_toList]; exact hv)
        refine SQ.loopStrN ((Walks.list hh3 _ l hneI items).toS) s.heap.objs.size
          hSf xs hsz (by rw [← hsz]; exact hn1) hnd hval (items.size - 0) 0 _ (by omega) (Nat.zero_le _)
          ⟨⟨_, Heap.get?_push_size _ rfl, rfl, rfl⟩, (hl1.push _)⟩ ?hS0 ?hR
        case hS0 =>
          have hget : ((s.heap.push { cls := .type "set", dict := none, data := .set #[] 0 (.fresh 0 0 led) }).push { cls := .type "list_iterator", data := .fields #[.ref l, .int 0 0] }).get? s.heap.objs.size
              = some { cls := .type "set", dict := none, data := .set #[] 0 (.fresh 0 0 led) } := Heap.get?_push_of_some _ hS
          exact PyProof.Rows.SetOf_congr ((PyProof.Rows.setObjOf_fresh (knd := PySem.strKind prog w) led).setOf hget (by unfold scanBound; omega)) (fun _ => rfl) rfl
        case hR =>
          intro s' hm hS'
          obtain ⟨h', g', d', tk', os'⟩ := s'
          have eg : g' = s.gens := hm.gens
          have ed : d' = s.drawn := hm.drawn
          have eo : os' = s.os := hm.os
          subst eg; subst ed; subst eo
          show wpAny _ _ _ _ _ _
          refine wpAny_pure ?_
          show wpAny _ _ (ret Value.none) _ _ _
          refine wpAny_pure ⟨rfl, h', tk', rfl, hS', fun b o hb e => ?_⟩
          have hb1 : b ≠ s.heap.objs.size := Nat.ne_of_lt hb
          have hb2 : b ≠ (s.heap.push { cls := .type "set", dict := none, data := .set #[] 0 (.fresh 0 0 led) }).objs.size := by
            rw [Heap.size_push]; exact Nat.ne_of_lt (Nat.lt_succ_of_lt hb)
          exact hm.heap b o (by simp only [List.mem_cons, List.mem_singleton, List.not_mem_nil, or_false, not_or]; exact ⟨hb1, hb2⟩) (Heap.get?_push_of_some _ (Heap.get?_push_of_some _ e))

      · cases r₂ with
        | error e => exact hr₂
        | ok fl₂ =>
          cases fl₂ with
          | ret r =>
            obtain ⟨rfl, h', tk, rfl, hS', hk'⟩ := hr₂
            repeat (any_goals (first | assumption | wp_step))
            exact h _ _ hS' hk'
          | _ => exact hr₂.elim
    | _ => exact hr.elim

end
open L2
noncomputable section
section
variable {X : Cx} {G : Gm} {W : Ow} {e a b : Expr} {P : VP} {pos apos cpos p : Pos} {k : Nat}
theorem pe_lenSetN {a : Expr} {ta : TE} {p p2 q pos : Pos} (hc : X.calm = true) (hg : Gl X "len") (hm : X.mg "len" = none) (hg2 : Gl X "set") (hm2 : X.mg "set" = none) (ha : PE X a ta)
    (na : starEach [a] X.env = (false, eval a X.env) :: starEach [] X.env := by rfl) : PE X (.Call (.Name "len" p) [.Call (.Name "set" p2) [a] [] q] [] pos) (fun σ H Q => ta σ H fun x H1 => ∃ l, ∃ xs : List Str, x = .ref l ∧ SqL X.K H1 l (xs.map V.str) ∧ xs.length ≤ 1000 ∧ xs.Nodup ∧ Q (.int xs.length) H1) := by
  refine ⟨fun pins s σ H Q I h => ?_⟩
  refine Call_ (ld_blt I hg hm boot_len ?_)
  refine PyProof.Rows.callWith_builtin1 (PyProof.Rows.args_cons ?_ rfl) rfl rfl
  refine Call_ (ld_blt I hg2 hm2 boot_set ?_)
  refine PyProof.Rows.callWith_type1 (PyProof.Rows.args_cons (thn (ha.run pins s σ H _ I h) fun v s1 ⟨x, H1, I1, r1, q1⟩ => PyProof.Rows.args_nil ?_) na) na rfl
  obtain ⟨l, xs, rfl, hq, h1, hnd, q1⟩ := q1
  cases r1
  obtain ⟨its, r, pl, hz⟩ := I1.list hq
  refine call_set_listN (I1.ok.hd hc) pl.isList (by simpa using L2.strsAre_of r) h1 hnd fun h' tk hS hk => ?_
  refine PyProof.Rows.args_nil ?_
  have hl : its.toArray.size = xs.length := by rw [List.size_toArray, ← r.length, List.length_map]
  rw [hl] at hS
  obtain ⟨o, es, ep, t, ho, hex, hd, _, _, _, hf, hn⟩ := hS
  have I2 : Inv X pins σ H1 { s1 with heap := h', toks := tk } := I1.kept fun b o e => hk b o (Heap.lt_size e) e
  have hsl := sizeLine_eq
  exact call_len_set ho hex hd hf (by rw [hn] <;> omega) ⟨.int xs.length, H1, I2.tok _, ⟨_, by rw [hn]⟩, q1⟩
theorem de_lenSet {xs : List Str} {p2 q : Pos} (hm : X.mg "len" = none) (hm2 : X.mg "set" = none) (ha : DE X G W a (rLi X.K (xs.map fun t => is (.str t)))) (hnd : xs.Nodup) (hz : xs.length ≤ 1000) (hc : X.calm = true := by rfl) (hg : Gl X "len" := by rfl) (hg2 : Gl X "set" := by rfl)
    (na : starEach [a] X.env = (false, eval a X.env) :: starEach [] X.env := by rfl) : DE X G W (.Call (.Name "len" p) [.Call (.Name "set" p2) [a] [] q] [] pos) (is (.int xs.length)) :=
  PE.to (pe_lenSetN hc hg hm hg2 hm2 ha na) fun s H Q ⟨c, S, kq⟩ => ⟨c, S, fun v H1 S1 e1 b1 => by
    rw [← map_is V.str xs] at b1
    obtain ⟨q, rfl, hq⟩ := li_vals b1
    exact ⟨q, xs, rfl, Same.lsq vis_sub hq, hz, hnd, kq _ H1 S1 e1 bx_is⟩⟩
theorem dt_chain {op op' : CmpOp} {cc : Expr} {k k' : Bool} {P1 P2 P3 : VP} (o : OpD X W (compareOp op) P1 P2 (is (.bl k))) (o' : k = true → OpD X W (compareOp op') P2 P3 (is (.bl k'))) (ha : DE X G W a P1) (hb : DE X G W b P2) (hc : k = true → DE X G W cc P3)
    (hm : lastMarks [op, op'] [b, cc] = false := by rfl) : DT X G W (.Compare a [op, op'] [b, cc] pos) (k && k') := by
  obtain ⟨r, h1, h2⟩ := o.ex
  cases k with
  | false =>
    refine PT.to (pt_chain (r' := fun _ _ _ _ => False) (tc := fun _ _ _ => False) h1 (fun _ _ _ _ _ _ _ _ _ _ _ _ z => z.elim) ha hb ⟨fun _ _ _ _ _ _ z => z.elim⟩ hm) fun s H Q ⟨c, S, kq⟩ => ⟨c, S, fun v1 H1 S1 e1 b1 => ⟨c, S1, fun v2 H2 S2 e2 b2 =>
      h2 c G s H2 v1 v2 _ S2 (b1.mono e2) b2 fun v H3 e3 b3 => ⟨false, b3.eq, ?_⟩⟩⟩
    exact iteF ⟨false, rfl, kq H3 (S2.same e3) ((e1.trans e2).trans (vis_same e3))⟩
  | true =>
    obtain ⟨r', h1', h2'⟩ := (o' rfl).ex
    refine PT.to (pt_chain h1 h1' ha hb (hc rfl) hm) fun s H Q ⟨c, S, kq⟩ => ⟨c, S, fun v1 H1 S1 e1 b1 => ⟨c, S1, fun v2 H2 S2 e2 b2 =>
      h2 c G s H2 v1 v2 _ S2 (b1.mono e2) b2 fun v H3 e3 b3 => ⟨true, b3.eq, ?_⟩⟩⟩
    exact iteT ⟨c, S2.same e3, fun v4 H4 S4 e4 b4 => h2' c G s H4 v2 v4 _ S4 (b2.mono ((vis_same e3).trans e4)) b4 fun v5 H5 e5 b5 => ⟨k', b5.eq, kq H5 (S4.same e5) ((((e1.trans e2).trans (vis_same e3)).trans e4).trans (vis_same e5))⟩⟩
/-- l.index(x), flat -/
theorem de_lindex {x z : V} {xs : List V} (j : Nat) (hx : flatV x = true) (ha : xs.all flatV = true) (hz : xs[j]? = some z) (he : eqV z x = true) (hno : ∀ (m : Nat) (z' : V), m < j → xs[m]? = some z' → eqV z' x = false) (ho : DE X G W a (rLi X.K (xs.map is))) (hb : DE X G W b (is x))
    (hbase : attributeBase a "index" X.env (eval a X.env) = eval a X.env := by rfl)
    (hfew : ((backTo cpos (starEach [b] X.env)).all (fun x => !x.1) && (backToKw cpos (keywordEach [] X.env)).all (fun x => x.1.isSome)
      && decide ([b].length + ([] : List Keyword).length + (if ([] : List Keyword).isEmpty then 0 else 1) < 30)) = true := by rfl)
    (hline : (apos.endLine == cpos.line) = true := by rfl) (hs : starEach [b] X.env = [(false, eval b X.env)] := by rfl) : DE X G W (.Call (.Attribute a "index" apos) [b] [] cpos) (is (.int j)) :=
  PE.to (pe_bm PySem.F.plainAttrs_list PySem.F.slot_list_index PySem.F.type_list_index mt_index ho (da_cons hb da_nil hs) hbase hfew hline hs rfl) fun s H Q ⟨c, S, kq⟩ => ⟨c, S, fun v H1 S1 e1 b1 => by
    obtain ⟨q, rfl, hq⟩ := li_vals b1
    refine ⟨.inl ⟨rfl, xs, Same.lsq vis_sub hq⟩, c, S1, fun vs H2 S2 e2 b2 => ?_⟩
    obtain ⟨y, rfl, by1⟩ := bx1 b2
    rw [by1.eq]
    exact ⟨q, xs, x, j, z, rfl, rfl, Same.lsq vis_sub (e2 _ _ hq), hx, ha, hz, he, hno, kq _ H2 S2 (e1.trans e2) bx_is⟩⟩
end
end
end SQ
end
section
set_option maxHeartbeats 4000000
namespace SQ
open PySem PySem.Spec PyProof.Rows L2 StX ClX
noncomputable section
def kinds : List (List Int) := [[0, 0, 0], [0, 0, 1], [0, 0, 2], [0, 0, 3], [0, 1, 0], [0, 1, 1], [0, 1, 2], [0, 1, 3], [0, 2, 0], [0, 2, 1], [0, 2, 2], [0, 2, 3], [1, 0, 0], [1, 0, 1], [1, 0, 2], [1, 0, 3], [1, 1, 0], [1, 1, 1], [1, 1, 2], [1, 1, 3], [1, 2, 0], [1, 2, 1], [1, 2, 2], [1, 2, 3]]
/-! ### what the top leaves -/
def Gv (mg : Str → Option Value) (x : Str) (v : V) : Prop := ∃ u, mg x = some u ∧ RelV v u
def Gt (K : PySem.W.Frag) (mg : Str → Option Value) (x : Str) (xs : List V) : Prop := ∃ a, mg x = some (.ref a) ∧ KTup K a xs
/-- a dict of the module with text keys: at each key of kvs a value with R, at the keys no nothing -/
def Gd (K : PySem.W.Frag) (w : World) (mg : Str → Option Value) (x : Str) {α : Type} (kvs : List (Str × α)) (R : α → V → Prop) (no : List Str) : Prop :=
  ∃ a es n, mg x = some (.ref a) ∧ KDict K w a es n ∧ (∀ q ∈ kvs, ∃ u v, PySem.W.nsIn K a q.1 = some (some u) ∧ RelV v u ∧ R q.2 v) ∧ ∀ k ∈ no, PySem.W.nsIn K a k = some none
def Mt (K : PySem.W.Frag) (C : Addr) (m qual : Str) (st : Stmt) : Prop := ∃ f fd, Meth K C m f ∧ FunD K m qual (defArgs st) (defBody st) (defScope st) [] [] f fd
def Ini (K : PySem.W.Frag) (C : Addr) (qual : Str) (st : Stmt) : Prop := ∃ f fd, Mk K C f ∧ FunD K "__init__" qual (defArgs st) (defBody st) (defScope st) [] [] f fd
def CMt (K : PySem.W.Frag) (C : Addr) (m qual : Str) (st : Stmt) : Prop := ∃ mc pr g fd, CRead K C mc ∧ CMet K C mc m pr g ∧ FunD K m qual (defArgs st) (defBody st) (defScope st) [] [] g fd
structure Ad where
  deed : Addr
  nest : Addr
  prog : Addr
  sizes : Addr
  action : Addr
  kr : List Addr
  hs : List Key → Int
structure Tx (K : PySem.W.Frag) (w : World) (mg : Str → Option Value) (A : Ad) : Prop where
  n_len : mg "len" = none
  n_int : mg "int" = none
  n_bool : mg "bool" = none
  n_str : mg "str" = none
  n_list : mg "list" = none
  n_tuple : mg "tuple" = none
  n_dict : mg "dict" = none
  n_set : mg "set" = none
  n_isinstance : mg "isinstance" = none
  n_min : mg "min" = none
  n_max : mg "max" = none
  n_abs : mg "abs" = none
  n_sum : mg "sum" = none
  n_all : mg "all" = none
  n_any : mg "any" = none
  n_sorted : mg "sorted" = none
  n_divmod : mg "divmod" = none
  n_range : mg "range" = none
  n_enumerate : mg "enumerate" = none
  n_zip : mg "zip" = none
  d_bound_value : DefF K mg "bound_value" "bound_value" (top 4)
  d_is_bound : DefF K mg "is_bound" "is_bound" (top 5)
  d_is_loop : DefF K mg "is_loop" "is_loop" (top 6)
  d_goes_down : DefF K mg "goes_down" "goes_down" (top 7)
  d_loop_range : DefF K mg "loop_range" "loop_range" (top 8)
  d_in_loop : DefF K mg "in_loop" "in_loop" (top 9)
  d_is_guard : DefF K mg "is_guard" "is_guard" (top 23)
  d_parsed_deed : DefF K mg "parsed_deed" "parsed_deed" (top 24)
  d_number_of : DefF K mg "number_of" "number_of" (top 25)
  d_place_cell : DefF K mg "place_cell" "place_cell" (top 26)
  d_holds : DefF K mg "holds" "holds" (top 27)
  d_do_deed : DefF K mg "do_deed" "do_deed" (top 28)
  d_is_integer : DefF K mg "is_integer" "is_integer" (top 46)
  d_within : DefF K mg "within" "within" (top 47)
  d_is_cell : DefF K mg "is_cell" "is_cell" (top 49)
  d_check_size : DefF K mg "check_size" "check_size" (top 52)
  d_check_cell : DefF K mg "check_cell" "check_cell" (top 53)
  d_images_of : DefF K mg "images_of" "images_of" (top 57)
  d_found_kind : DefF K mg "found_kind" "found_kind" (top 58)
  d_least_size : DefF K mg "least_size" "least_size" (top 59)
  d_corner : DefF K mg "corner" "corner" (top 60)
  d_falls_at : DefF K mg "falls_at" "falls_at" (top 64)
  d_orbit_rounds : DefF K mg "orbit_rounds" "orbit_rounds" (top 65)
  d_starts : DefF K mg "starts" "starts" (top 66)
  d_meet_rows : DefF K mg "meet_rows" "meet_rows" (top 67)
  d_join_rows : DefF K mg "join_rows" "join_rows" (top 68)
  d_moves_from : DefF K mg "moves_from" "moves_from" (top 69)
  d_effect_on : DefF K mg "effect_on" "effect_on" (top 70)
  d_content_after : DefF K mg "content_after" "content_after" (top 71)
  d_repeated : DefF K mg "repeated" "repeated" (top 72)
  d_bits_of : DefF K mg "bits_of" "bits_of" (top 73)
  d_least_contents : DefF K mg "least_contents" "least_contents" (top 74)
  d_check_program : DefF K mg "check_program" "check_program" (top 80)
  d_read_nests : DefF K mg "read_nests" "read_nests" (top 82)
  d_read_nest : DefF K mg "read_nest" "read_nest" (top 83)
  d_check_listed : DefF K mg "check_listed" "check_listed" (top 86)
  d_check_tail : DefF K mg "check_tail" "check_tail" (top 87)
  d_tail_from : DefF K mg "tail_from" "tail_from" (top 88)
  d_goes_on : DefF K mg "goes_on" "goes_on" (top 89)
  d_sizes_where : DefF K mg "sizes_where" "sizes_where" (top 93)
  d_reached_bits : DefF K mg "reached_bits" "reached_bits" (top 99)
  d_law_purl : DefF K mg "_law_purl" "_law_purl" (top 101)
  d_law_dig : DefF K mg "_law_dig" "_law_dig" (top 102)
  d_law_spots : DefF K mg "_law_spots" "_law_spots" (top 103)
  d_law_cells : DefF K mg "_law_cells" "_law_cells" (top 104)
  d_law_end : DefF K mg "_law_end" "_law_end" (top 105)
  d_law_endtext : DefF K mg "_law_endtext" "_law_endtext" (top 106)
  d_law_loop : DefF K mg "_law_loop" "_law_loop" (top 107)
  d_law_looptext : DefF K mg "_law_looptext" "_law_looptext" (top 108)
  d_law_deed : DefF K mg "_law_deed" "_law_deed" (top 109)
  d_law_deedtext : DefF K mg "_law_deedtext" "_law_deedtext" (top 110)
  d_law_nest : DefF K mg "_law_nest" "_law_nest" (top 111)
  d_law_plan : DefF K mg "_law_plan" "_law_plan" (top 112)
  d_law_text : DefF K mg "_law_text" "_law_text" (top 113)
  d_law_steps : DefF K mg "_law_steps" "_law_steps" (top 114)
  d_law_turns : DefF K mg "_law_turns" "_law_turns" (top 115)
  d_law_out : DefF K mg "_law_out" "_law_out" (top 116)
  d_law_holds : DefF K mg "_law_holds" "_law_holds" (top 117)
  d_law_do : DefF K mg "_law_do" "_law_do" (top 118)
  d_law_orbit : DefF K mg "_law_orbit" "_law_orbit" (top 119)
  d_law_near : DefF K mg "_law_near" "_law_near" (top 120)
  d_law_outfar : DefF K mg "_law_outfar" "_law_outfar" (top 121)
  d_law_far : DefF K mg "_law_far" "_law_far" (top 122)
  d_law_spot : DefF K mg "_law_spot" "_law_spot" (top 123)
  d_law_after : DefF K mg "_law_after" "_law_after" (top 124)
  d_law_met : DefF K mg "_law_met" "_law_met" (top 125)
  d_law_right : DefF K mg "_law_right" "_law_right" (top 126)
  d_law : DefF K mg "law" "law" (top 127)
  d_within_values : DefF K mg "within_values" "within" (top 47)
  g_MOST_NESTS : Gv mg "MOST_NESTS" (.int 4)
  g_MOST_DEEDS : Gv mg "MOST_DEEDS" (.int 6)
  g_MOST_SIZE : Gv mg "MOST_SIZE" (.int 1000000000000000000000000000000)
  g_MOST_POWER : Gv mg "MOST_POWER" (.int 1000000000000000000000000000000)
  g_DECIDING : Gv mg "DECIDING" (.int 11)
  g_OUTER_HEAD : Gv mg "OUTER_HEAD" (.str "i from ")
  g_INNER_HEAD : Gv mg "INNER_HEAD" (.str "j from ")
  g_NUMBERS : Gt K mg "NUMBERS" (nmTs.map V.str)
  g_SIGNS : Gt K mg "SIGNS" (sgTs.map V.str)
  g_PLACES : Gt K mg "PLACES" (plTs.map V.str)
  g_KINDS : Gt K mg "KINDS" (A.kr.map V.ref)
  krl : A.kr.length = 24
  krk : ∀ (i : Nat) (a : Addr), A.kr[i]? = some a → KTup K a [.int ((i / 12 : Nat) : Int), .int ((i / 4 % 3 : Nat) : Int), .int ((i % 4 : Nat) : Int)]
  hs : ∀ P : Program, (tupleKind (mixKind P w)).hash = A.hs
  g_OUTER : Gd K w mg "OUTER" ((List.range 12).map fun a => (endT a, a)) (fun a v => ∃ t, v = .ref t ∧ KTup K t [.str (bsT (a / 3)), .int ((a % 3 : Nat) - 1)]) ((List.range 6).map fun a => endT (12 + a))
  g_INNER : Gd K w mg "INNER" ((List.range 6).map fun a => (endT (12 + a), 12 + a)) (fun a v => ∃ t, v = .ref t ∧ KTup K t [.str (bsT (a / 3)), .int ((a % 3 : Nat) - 1)]) []
  g_FEWEST : Gd K w mg "FEWEST" [("swap", (2 : Int)), ("copy", 2), ("order", 2), ("turn", 3)] (fun a v => v = .int a) []
  g_MOST : Gd K w mg "MOST" [("swap", (2 : Int)), ("copy", 2), ("order", 2), ("turn", 8)] (fun a v => v = .int a) []
  v_Deed : mg "Deed" = some (.ref A.deed)
  c_Deed : Cls K A.deed
  na_Deed_word : NoAttr K A.deed "word"
  na_Deed_spots : NoAttr K A.deed "spots"
  na_Deed_guard : NoAttr K A.deed "guard"
  i_Deed : Ini K A.deed "Deed.__init__" (inClass (top 22) 0)
  v_Nest : mg "Nest" = some (.ref A.nest)
  c_Nest : Cls K A.nest
  na_Nest_over : NoAttr K A.nest "over"
  na_Nest_below : NoAttr K A.nest "below"
  na_Nest_texts : NoAttr K A.nest "texts"
  na_Nest_parsed : NoAttr K A.nest "parsed"
  i_Nest : Ini K A.nest "Nest.__init__" (inClass (top 78) 0)
  v_Program : mg "Program" = some (.ref A.prog)
  c_Program : Cls K A.prog
  na_Program_parts : NoAttr K A.prog "parts"
  i_Program : Ini K A.prog "Program.__init__" (inClass (top 79) 0)
  v_Sizes : mg "Sizes" = some (.ref A.sizes)
  c_Sizes : Cls K A.sizes
  na_Sizes_tails : NoAttr K A.sizes "tails"
  na_Sizes_few : NoAttr K A.sizes "few"
  m_Sizes_contains : Mt K A.sizes "__contains__" "Sizes.__contains__" (inClass (top 90) 5)
  v_Action : mg "Action" = some (.ref A.action)
  c_Action : Cls K A.action
  na_Action_moves : NoAttr K A.action "moves"
  na_Action_gaps : NoAttr K A.action "gaps"
  i_Action : Ini K A.action "Action.__init__" (inClass (top 97) 0)
  m_Action_result : Mt K A.action "result" "Action.result" (inClass (top 97) 5)
  m_Action_reaches : Mt K A.action "reaches" "Action.reaches" (inClass (top 97) 6)
  m_Action_times : Mt K A.action "times" "Action.times" (inClass (top 97) 8)
  i_Sizes : ∃ (f : Addr) (fd : FuncData) (t : Addr), Mk K A.sizes f ∧ FunD K "__init__" "Sizes.__init__" (defArgs (inClass (top 90) 0)) (defBody (inClass (top 90) 0)) (defScope (inClass (top 90) 0)) [.ref t] [("even", .non), ("odd", .non), ("most", .int 200)] f fd
  is_Nest : IsC K A.nest
  is_Program : IsC K A.prog
  cm_read : CMt K A.prog "read" "Program.read" (inClass (top 79) 1)
  cm_of : CMt K A.action "of" "Action.of" (inClass (top 97) 1)
/-! ### blocks of comprehensions -/
def blkC (N : List Str) (sc scope : Scope) (own : List (Str × Nat)) : Bool :=
  decide (scope.kind = .function) && scope.names.all (fun y => decide (scope.names.lookup y.1 = some y.2)) && own.all (fun p => decide (N[p.2]? = some p.1)) &&
  scope.names.all (fun y => !decide (y.2 = .free) || decide (sc.names.lookup y.1 = some .cell) || decide (sc.names.lookup y.1 = some .free)) &&
  scope.names.all (fun y => !(decide (y.2 = .local) || decide (y.2 = .cell)) || decide (y.1 ∈ own.map (·.1)) || !decide (y.1 ∈ N))
theorem blk_of {N : List Str} {sc scope : Scope} {own : List (Str × Nat)} (h : blkC N sc scope own = true) : BlkOk N sc scope own := by
  unfold blkC at h
  simp only [Bool.and_eq_true, List.all_eq_true, decide_eq_true_eq, Bool.or_eq_true, Bool.not_eq_true', decide_eq_false_iff_not, Bool.or_eq_false_iff] at h
  obtain ⟨⟨⟨⟨h1, h2⟩, h3⟩, h4⟩, h5⟩ := h
  refine ⟨h1, h2, h3, fun y hy e => ?_, fun y hy e => ?_⟩
  · rcases h4 y hy with (z | z) | z
    · exact absurd e z
    · exact .inl z
    · exact .inr z
  · rcases h5 y hy with (z | z) | z
    · exact absurd e (fun q => q.elim z.1 z.2)
    · exact .inl z
    · exact .inr z
section
variable {X : Cx} {G : Gm} {W : Ow} {x : Str} {v : V} {xs : List V} {pos : Pos}
theorem hs_x {A : Ad} (T : Tx X.K X.w X.mg A) : (tupleKind (mixKind X.prog X.w)).hash = A.hs := T.hs X.prog
theorem de_gv (h : Gv X.mg x v) (hg : Gl X x := by rfl) (hd : (x == ("__debug__" : Str)) = false := by decide) : DE X G W (.Name x pos) (is v) := let ⟨u, h1, h2⟩ := h; de_glob h1 h2 hg hd
theorem de_gt (h : Gt X.K X.mg x xs) (hg : Gl X x := by rfl) (hd : (x == ("__debug__" : Str)) = false := by decide) : DE X G W (.Name x pos) (rTu X.K (xs.map is)) := let ⟨a, h1, h2⟩ := h; de_ktup h1 h2 hg hd
theorem de_eq {W' : Ow} {e : Expr} {P P' : VP} (d : DX X G W W' e P) (h : P = P') : DX X G W W' e P' := h ▸ d
theorem od_eq {f : Value → Value → Sem Value} {P1 P2 P P' : VP} (d : OpD X W f P1 P2 P) (h : P = P') : OpD X W f P1 P2 P' := h ▸ d
theorem dt_eq {e : Expr} {k k' : Bool} (d : DT X G W e k) (h : k = k') : DT X G W e k' := h ▸ d
theorem di_eq {tg e : Expr} {Ps Ps' : List VP} (d : DI X G W tg e Ps) (h : Ps = Ps') : DI X G W tg e Ps' := h ▸ d
theorem od_inKT {d : Addr} {es : Array DictEntry} {n : Nat} {z : Str} {u : Value} (T : KDict X.K X.w d es n) (h : PySem.W.nsIn X.K d z = some (some u)) : OpD X W (compareOp .In) (is (.str z)) (is (.ref d)) (is (.bl true)) := od_inK T h
theorem od_inKF {d : Addr} {es : Array DictEntry} {n : Nat} {z : Str} (T : KDict X.K X.w d es n) (h : PySem.W.nsIn X.K d z = some none) : OpD X W (compareOp .In) (is (.str z)) (is (.ref d)) (is (.bl false)) := od_inK T h
theorem od_notInKT {d : Addr} {es : Array DictEntry} {n : Nat} {z : Str} {u : Value} (T : KDict X.K X.w d es n) (h : PySem.W.nsIn X.K d z = some (some u)) : OpD X W (compareOp .NotIn) (is (.str z)) (is (.ref d)) (is (.bl false)) := od_notInK T h
theorem de_gc {C : Addr} (h : X.mg x = some (.ref C)) (hg : Gl X x := by rfl) (hd : (x == ("__debug__" : Str)) = false := by decide) : DE X G W (.Name x pos) (is (.ref C)) := de_glob h rfl hg hd
end
end
end SQ
end
section
set_option maxHeartbeats 400000
namespace SQ
open PySem PySem.Spec PyProof.Rows L2 StX ClX
noncomputable section
section
variable {X : Cx} {G : Gm} {W : Ow} {D : DEn} {rest body : List Stmt} {pos : Pos}
/-- for over alike things: the target's change is told by the thing itself -/
theorem dss_forM {α : Type} {xs : List α} {p : α → VP} {tg iter : Expr} {js : List Nat} {up : α → Gm → Gm} (Iv : Nat → Gm → Ow → Prop) (hi : DI X G W tg iter (xs.map p)) (hg : ∀ x ∈ xs, DG X tg (p x) js (up x)) (h0 : Iv 0 G W)
    (hb : ∀ (i : Nat) x G' W', xs[i]? = some x → Iv i G' W' → DSs X (up x G') W' body { nx := Iv (i + 1), ct := Iv (i + 1), bk := fun G2 W2 => DSs X G2 W2 rest D, rt := D.rt })
    (hd : ∀ G' W', Iv xs.length G' W' → DSs X G' W' rest D) (hp : PassesOwn (model X.prog X.w) X.A X.env X.xe := by exact PassesOwn.never) (hc : X.calm = true := by rfl) (hs : ∀ x, foldedSetIterable iter X.env x = pure x := by intro _; rfl) :
    DSs X G W (.For tg iter body [] pos :: rest) D := by
  refine dss_cons ?_
  have pg : PG X tg (fun v s H Q => ∃ x ∈ xs, tG (p x) js (up x) v s H Q) := ⟨fun pins s σ H v u Q I r ⟨x, hx, q⟩ => (hg x hx).run pins s σ H v u Q I r q⟩
  have pb : PSs X body (fun E s H => ∃ c i x G' W', xs[i]? = some x ∧ Iv i G' W' ∧ StOk c (up x G') W' s H ∧ EndOk c { nx := Iv (i + 1), ct := Iv (i + 1), bk := fun G2 W2 => DSs X G2 W2 rest D, rt := D.rt } E) :=
    ⟨fun pins s σ H E I ⟨c, i, x, G', W', hP, hI, S, eo⟩ => (hb i x G' W' hP hI).run pins s σ H E I ⟨c, S, eo⟩⟩
  refine PS.to (ps_for hp hc hi pg pb hs) fun E s H ⟨c, S, eo⟩ => ⟨c, S, fun J H1 S1 e1 it => ?_⟩
  refine ⟨fun i m s' H' => m = xs.length - i ∧ i ≤ xs.length ∧ ∃ G' W', Iv i G' W' ∧ StOk ⟨H1, inO W, c.hd⟩ G' W' s' H', ⟨xs.length, by simp, Nat.zero_le _, G, W, h0, S1.loop⟩, ?_⟩
  rintro i m s2 H2 ⟨rfl, hi2, G2, W2, I2, S2⟩
  have sm : Same (vis c W H1) H2 := (S1.unloop S2).2.trans vis_sub
  by_cases hlt : i < xs.length
  · obtain ⟨hgo, hy⟩ := it.go i (p xs[i]) H2 (by simp [hlt]) sm
    refine .inr ⟨hgo, fun s' H' => ∃ G' W', Iv (i + 1) G' W' ∧ StOk ⟨H1, inO W, c.hd⟩ G' W' s' H', fun s' H' ⟨G', W', I', S'⟩ => ⟨xs.length - (i + 1), by omega, rfl, hlt, G', W', I', S'⟩, fun x H3 y => ?_⟩
    obtain ⟨e3, k3⟩ := hy x H3 y
    refine ⟨xs[i], List.getElem_mem hlt, ⟨H1, inO W, c.hd⟩, G2, W2, S2.same e3, (show Bx (p xs[i]) x (vis c W2 H3) from iter_bx S1 S2 e3 k3), fun s4 H4 S4 _ _ _ => ?_⟩
    refine ⟨⟨H1, inO W, c.hd⟩, i, xs[i], G2, W2, by simp [hlt], I2, S4, ⟨fun G' W' s' H' hn S' => ⟨G', W', hn, S'⟩, fun P' G' W' s' v H' hr S' b => eo.rt P' G' W' s' v H' hr (S1.unloop S').1 b, fun G' W' s' H' hk S' => eo.nx G' W' s' H' hk (S1.unloop S').1, fun G' W' s' H' hn S' => ⟨G', W', hn, S'⟩⟩⟩
  · have ei : i = xs.length := by omega
    subst ei
    exact .inl ⟨it.stop H2 (by exact sm) |> fun z => by simpa using z, eo.nx G2 W2 s2 H2 (hd G2 W2 I2) (S1.unloop S2).1⟩
end
end
end SQ
end
section
set_option maxHeartbeats 400000
namespace SQ
open PySem PySem.Spec PyProof.Rows L2 StX ClX
noncomputable section
section
variable {X : Cx} {G : Gm} {W : Ow}
theorem own_vals {c : Ct} {s : St} {H : Hp} {q : Addr} {xs : List V} (S : StOk c G W s H) (hq : (q, oLi (xs.map is)) ∈ W) : H q = some (.lst xs) := by
  obtain ⟨vs, hu, r⟩ := mem_of_owned S hq
  rw [hu, bxs_is r]
theorem od_inO {x : V} {xs : List V} {q : Addr} (hq : (q, oLi (xs.map is)) ∈ W) (hx : flatV x = true) (ha : xs.all flatV = true) : OpD X W (compareOp .In) (is x) (is (.ref q)) (is (.bl (inV x xs))) := ⟨_, op_in_seq, fun c G s H v1 v2 Q S b1 b2 k => by
  rw [b1.eq, b2.eq]
  exact ⟨q, xs, rfl, .inl (SqL.of (own_vals S hq)), hx, ha, k _ H (Same.refl H) bx_is⟩⟩
theorem od_notInO {x : V} {xs : List V} {q : Addr} (hq : (q, oLi (xs.map is)) ∈ W) (hx : flatV x = true) (ha : xs.all flatV = true) : OpD X W (compareOp .NotIn) (is x) (is (.ref q)) (is (.bl (!inV x xs))) := ⟨_, op_notIn_seq, fun c G s H v1 v2 Q S b1 b2 k => by
  rw [b1.eq, b2.eq]
  exact ⟨q, xs, rfl, .inl (SqL.of (own_vals S hq)), hx, ha, k _ H (Same.refl H) bx_is⟩⟩
end
end
end SQ
end
section
set_option maxHeartbeats 400000
namespace SQ
open PySem PySem.Spec PyProof.Rows L2 StX ClX
noncomputable section
section
variable {X : Cx} {G : Gm} {W : Ow} {D : DEn} {rest body : List Stmt} {pos p : Pos} {a b e : Expr} {es : List Expr} {x : Str} {k L : Nat}
/-- a, b, c = e1, e2, e3 -/
theorem dss_par3 (i j l : Nat) {c : Expr} {P1 P2 P3 : VP} {y z : Str} {px py pz pt : Pos} {kt k2 pt2} (ha : DA X G W [a, b, c] [P1, P2, P3]) (h : DSs X (((G.set i (some P1)).set j (some P2)).set l (some P3)) W rest D) (hN : X.N.Nodup) (hij : i ≠ j := by decide) (hil : i ≠ l := by decide) (hjl : j ≠ l := by decide)
    (hi : X.N[i]? = some x := by rfl) (hj : X.N[j]? = some y := by rfl) (hk : X.N[l]? = some z := by rfl)
    (hc : X.calm = true := by rfl) (hx : X.env.scope.names.lookup x = some .local := by rfl) (hy : X.env.scope.names.lookup y = some .local := by rfl) (hz : X.env.scope.names.lookup z = some .local := by rfl)
    (hw : swappedStores [.Tuple [.Name x px, .Name y py, .Name z pz] kt pt] (.Tuple [a, b, c] k2 pt2) X.env = pure (some [x, y, z]) := by rfl)
    (hs : swapsWithSole [.Tuple [.Name x px, .Name y py, .Name z pz] kt pt] (.Tuple [a, b, c] k2 pt2) pos.line X.env = pure false := by rfl) :
    DSs X G W (.Assign [.Tuple [.Name x px, .Name y py, .Name z pz] kt pt] (.Tuple [a, b, c] k2 pt2) pos :: rest) D :=
  dss_cons (PS.to (ps_par3 hc hN hi hj hk hij hil hjl hx hy hz ha hw hs) fun E s H ⟨c, S, eo⟩ => ⟨c, S, fun vs H' S' e' b => by
    cases b with
    | cons b1 r =>
      cases r with
      | cons b2 r =>
        cases r with
        | cons b3 r =>
          cases r
          exact ⟨_, _, _, rfl, eo.nx _ _ _ H' h (((S'.setE i b1).setE j b2).setE l b3)⟩⟩)
/-- an owned list with one owned list in it, both let go -/
theorem dss_freeLL {q r : Addr} {Ps : List VP} (i : Nat) (h : DSs X (G.set i (some (rLi X.K [rLi X.K Ps]))) W rest D) (hG : G[i]? = some (some (is (.ref q))) := by rfl) : DSs X G ((r, oLi Ps) :: (q, oLi [is (.ref r)]) :: W) rest D := ⟨fun pins s σ H E I ⟨c, S, eo⟩ => by
  obtain ⟨v, e, z⟩ := S.env.2 i _ hG
  cases z.eq
  obtain ⟨u1, hu1, hc1⟩ := S.owned List.mem_cons_self
  obtain ⟨u2, hu2, hc2⟩ := S.owned (List.mem_cons_of_mem _ List.mem_cons_self)
  have n1 := (List.nodup_cons.mp S.nd).1
  have nd2 := (List.nodup_cons.mp S.nd).2
  have n2 := (List.nodup_cons.mp nd2).1
  have hs : ∀ p ∈ W, p ∈ ((r, oLi Ps) :: (q, oLi [is (.ref r)]) :: W) := fun p hp => List.mem_cons_of_mem _ (List.mem_cons_of_mem _ hp)
  have hm : ∀ b, inO W b → inO ((r, oLi Ps) :: (q, oLi [is (.ref r)]) :: W) b := fun b q => let ⟨C, h⟩ := q.ex; inO.mem (hs _ h)
  have vd := vis_drop (c := c) (H := H) hm
  have nr : ¬ (c.hd r ∨ inO W r) := fun z => z.elim (S.dj r (inO.mem List.mem_cons_self)) fun y => n1 (List.mem_cons_of_mem _ y)
  have nq : ¬ (c.hd q ∨ inO W q) := fun z => z.elim (S.dj q (inO.mem (List.mem_cons_of_mem _ List.mem_cons_self))) n2
  have b1 : Bx (rLi X.K Ps) (.ref r) (vis c W H) := li_of (fun H2 e2 => hc1 H2 (vd.trans e2)) (hid_some.mpr ⟨nr, hu1⟩)
  obtain ⟨vs, rfl, pr⟩ := hc2 _ (Same.refl _)
  have ev : vs = [.ref r] := bxs_is (xs := [.ref r]) pr
  subst ev
  have b2 : Bx (rLi X.K [rLi X.K Ps]) (.ref q) (vis c W H) := bx_li (hid_some.mpr ⟨nq, hu2⟩) (.cons b1 .nil)
  have hs2 : σ.set i (some (.ref q)) = σ := by
    apply List.ext_getElem?
    intro j
    by_cases ij : i = j
    · subst ij
      rw [List.getElem?_set_self (List.getElem?_eq_some_iff.mp e).1, e]
    · rw [List.getElem?_set_ne ij]
  have S2 := (S.drop hs (List.nodup_cons.mp nd2).2).setE (P := rLi X.K [rLi X.K Ps]) i b2
  rw [hs2] at S2
  exact h.run pins s σ H E I ⟨c, S2, eo⟩⟩

/-! ### results that are new -/
def SpN (Ps : List VP) (C : OC) : Sp := fun vs H Q _ => ∃ c, StOk c (Ps.map some) [] (vs.map some) H ∧ ∀ a H' G' s', StOk c G' [(a, C)] s' H' → Q (.ref a) H'
structure FnN (prog : Program) (w : World) (K : PySem.W.Frag) (mg : Str → Option Value) (base : Heap) (x : Str) (L : Nat) (Ps : List VP) (C : OC) : Prop where
  ex : ∃ f, mg x = some (.ref f) ∧ PySem.W.keepIn K (.ref f) = true ∧ FnR prog w K mg base CX0 L f (SpN Ps C)
def retN (C : OC) : DEn where
  rt := fun P' W2 => ∃ a, P' = is (.ref a) ∧ (a, C) ∈ W2
  nx := fun _ _ => False
theorem dss_retNew {C : OC} (he : DN X G W e C) : DSs X G W (.Return (some e) pos :: rest) (retN C) :=
  dss_cons (PS.to (ps_ret he) fun E s H ⟨c, S, eo⟩ => ⟨c, S, fun a H' S' e' _ => eo.rt (is (.ref a)) G ((a, C) :: W) s (.ref a) H' ⟨a, rfl, List.mem_cons_self⟩ S' bx_is⟩)
theorem StOk.backN {c : Ct} {s s2 : St} {H H' : Hp} {G2 : Gm} {q : Addr} {C : OC} (S : StOk c G W s H) (S2 : StOk (c.sub W [] H) G2 [(q, C)] s2 H') : StOk c G ((q, C) :: W) s H' ∧ Same (vis c W H) (vis c ((q, C) :: W) H') ∧ ¬ c.hd q := by
  obtain ⟨m2, u, hu, hz⟩ := S2.own q C List.mem_cons_self
  have hq : H q = none := by
    rcases m2 with z | z
    · exact absurd z (fun y => nomatch y)
    · exact z
  obtain ⟨n1, n2⟩ := S.fresh hq
  have kp : ∀ b u, H b = some u → H' b = some u := fun b u h => S2.fr b u (fun z => nomatch z) h
  have sm : Same (vis c W H) (vis c ((q, C) :: W) H') := hid_le fun b u nb hb => by
    refine ⟨fun z => ?_, kp b u hb⟩
    rcases z with z | z
    · exact nb (.inl z)
    · rcases List.mem_cons.mp z with z | z
      · rw [show b = q from z, hq] at hb; cases hb
      · exact nb (.inr z)
  have ev : vis (c.sub W [] H) [(q, C)] H' = vis c ((q, C) :: W) H' := by
    funext b
    show hid _ _ b = hid _ _ b
    unfold hid
    have : ((c.sub W [] H).hd b ∨ inO [(q, C)] b) ↔ (c.hd b ∨ inO ((q, C) :: W) b) := by
      constructor
      · rintro ((z | ⟨z, _⟩) | z)
        · exact .inl z
        · exact .inr (List.mem_cons_of_mem _ z)
        · rw [List.mem_singleton.mp z]
          exact .inr List.mem_cons_self
      · rintro (z | z)
        · exact .inl (.inl z)
        · rcases List.mem_cons.mp z with z | z
          · rw [z]
            exact .inr List.mem_cons_self
          · exact .inl (.inr ⟨z, fun y => nomatch y⟩)
    by_cases z : c.hd b ∨ inO ((q, C) :: W) b
    · rw [if_pos z, if_pos (this.mpr z)]
    · rw [if_neg z, if_neg fun y => z (this.mp y)]
  refine ⟨⟨S.env.mono sm, fun b D hb => ?_, List.nodup_cons.mpr ⟨n2, S.nd⟩, fun b u m h => kp b u (S.fr b u m h), fun b h n => ?_, fun b h => ?_⟩, sm, n1⟩
  · rcases List.mem_cons.mp hb with h | h
    · cases h
      refine ⟨?_, u, hu, by rw [← ev]; exact hz⟩
      by_cases m : c.mu q
      · exact .inl m
      · refine .inr ?_
        cases r : c.h0 q with
        | none => rfl
        | some u2 => rw [S.fr q u2 m r] at hq; cases hq
    · obtain ⟨m, u2, y, z⟩ := S.own b D h
      exact ⟨m, u2, kp b u2 y, fun H2 k2 => z H2 (sm.trans k2)⟩
  · cases r : H b with
    | none => exact S.hdA b h r
    | some u2 => rw [kp b u2 r] at n; cases n
  · rcases List.mem_cons.mp h with z | z
    · rw [show b = q from z]; exact n1
    · exact S.dj b z
/-- f(e, ..), f hands back a new object -/
theorem dn_call {C : OC} {Ps : List VP} (F : FnN X.prog X.w X.K X.mg X.base x L Ps C) (hr : Room k X.A) (ha : DA X G W (e :: es) Ps) (hl : L ≤ k := by decide) (hg : Gl X x := by rfl) (hd : (x == ("__debug__" : Str)) = false := by decide)
    (he : starEach (e :: es) X.env = (false, eval e X.env) :: starEach es X.env := by rfl) (hpl : (backTo pos (starEach es X.env)).any (·.1) = false := by rfl) : DN X G W (.Call (.Name x p) (e :: es) [] pos) C := by
  obtain ⟨f, hm, hk, F⟩ := F.ex
  exact PE.to (pe_callR (F.mono hl) hr hg hm hk pass0 ha hd he hpl) fun s H Q ⟨c, S, q⟩ => ⟨c, S, fun vs H1 S1 e1 b1 =>
    ⟨c.sub W [] H1, S1.sub (W' := []) (fun _ h => nomatch h) List.nodup_nil (env_of b1), fun a H' G' s' S2 => by
      obtain ⟨a1, a2, a3⟩ := S1.backN S2
      exact q a H' a1 (e1.trans a2) a3⟩⟩
/-- f(e), e a new object that f may change and then leaves -/
theorem de_callN1 {C : OC} {C' : OC} {P : VP} (F : ∀ q, FnG X.prog X.w X.K X.mg X.base x L [is (.ref q)] [(q, C)] [(q, C')] P) (hr : Room k X.A) (ha : DN X G W e C) (hl : L ≤ k := by decide) (hg : Gl X x := by rfl) (hd : (x == ("__debug__" : Str)) = false := by decide)
    (he : starEach [e] X.env = [(false, eval e X.env)] := by rfl) : DE X G W (.Call (.Name x p) [e] [] pos) P := by
  obtain ⟨f, hm, hk, _⟩ := (F 0).ex
  have Fq : FnR X.prog X.w X.K X.mg X.base CX0 L f (fun vs H Q E => ∃ q, SpF [is (.ref q)] [(q, C)] [(q, C')] P vs H Q E) := fun A outer s H us vs Q E hr e0 r ⟨q, h⟩ => by
    obtain ⟨f2, hm2, _, F2⟩ := (F q).ex
    rw [hm] at hm2
    cases hm2
    exact F2 A outer s H us vs Q E hr e0 r h
  have hp : PA X [e] (fun s H Q => ∃ c, StOk c G W s H ∧ ∀ r H', StOk c G ((r, C) :: W) s H' → Same (vis c W H) (vis c ((r, C) :: W) H') → ¬ c.hd r → Q [.ref r] H') := PA.to (pa_cons ha pa_nil he) fun s H Q ⟨c, S, kq⟩ => ⟨c, S, fun r H' S' e' n => kq r H' S' e' n⟩
  exact PE.to (pe_callR (Fq.mono hl) hr hg hm hk pass0 hp hd he rfl) fun s H Q ⟨c, S, kq⟩ => ⟨c, S, fun r H1 S1 e1 n1 => by
    have n2 := (List.nodup_cons.mp S1.nd).1
    refine ⟨r, spf_use (W1 := (r, C') :: W) S1 (.cons bx_is .nil) (fun p hp => by rw [List.mem_singleton.mp hp]; exact List.mem_cons_self) (by simp) rfl rfl (fun a D h => ?_) fun v H' S' e2 b2 => ?_⟩
    · rcases List.mem_cons.mp h with h2 | h2
      · exact .inl (by rw [h2]; exact List.mem_cons_self)
      · refine .inr ⟨List.mem_cons_of_mem _ h2, fun z => ?_⟩
        have ea : a = r := by simpa [inO] using z
        exact n2 (List.mem_map.mpr ⟨_, h2, ea⟩)
    · have hm : ∀ b, inO W b → inO ((r, C') :: W) b := fun b z => List.mem_cons_of_mem _ z
      exact kq v H' (S'.drop (fun _ h => List.mem_cons_of_mem _ h) (List.nodup_cons.mp S'.nd).2) ((e1.trans e2).trans (vis_drop hm)) (b2.mono (vis_drop hm))⟩

/-! ### stores into owned lists -/
theorem putO_hd {q : Addr} {C C' : OC} {W : Ow} : putO ((q, C) :: W) q C' = (q, C') :: W := by simp [putO]
/-- q[i] = e -/
theorem dss_lput {q : Addr} {Ps : List VP} {P : VP} {i : Int} {pos' : Pos} (j : Nat) (ho : DE X G ((q, oLi Ps) :: W) a (is (.ref q))) (hi : DE X G ((q, oLi Ps) :: W) b (is (.int i))) (he : DE X G ((q, oLi Ps) :: W) e P) (hj : ixN Ps.length i = some j)
    (h : DSs X G ((q, oLi (Ps.set j P)) :: W) rest D) (hs : swapsWithSole [.Subscript a b pos'] e pos.line X.env = pure false := by rfl) (hw : swappedStores [.Subscript a b pos'] e X.env = pure none := by rfl)
    (h1 : (assignEach [.Subscript a b pos'] X.env).map (·.2) = [assign (.Subscript a b pos') X.env] := by rfl)
    (ha : ∀ v, assign (.Subscript a b pos') X.env v = (do
      let ov ← holding [v] (eval a X.env)
      let iv ← holding [v, ov] (eval b X.env)
      standAt pos'
      holding [v, ov, iv] (setItem ov iv v)
      release [v, ov, iv] []) := by intro _; rfl) : DSs X G ((q, oLi Ps) :: W) (.Assign [.Subscript a b pos'] e pos :: rest) D :=
  dss_cons (PS.to (ps_asg he (pg_sub (pos := pos') ho hi set_list ha) hs hw h1) fun E s H ⟨c, S, eo⟩ => ⟨c, S, fun v H1 S1 e1 b1 => ⟨c, S1, fun o H2 S2 e2 b2 => ⟨c, S2, fun iv H3 S3 e3 b3 => by
    cases b2.eq
    cases b3.eq
    obtain ⟨vs, hu, r⟩ := mem_of_owned S3 List.mem_cons_self
    refine ⟨q, vs, i, j, rfl, rfl, hu, by rw [← Paired.length r]; exact hj, ?_⟩
    have hset : Paired (fun P v => Bx P v (vis c ((q, oLi Ps) :: W) H3)) (Ps.set j P) (vs.set j v) := paired_set r (b1.mono (e2.trans e3))
    obtain ⟨a1, a2⟩ := S3.put (q := q) (C := oLi (Ps.set j P)) (o := .lst (vs.set j v)) (inO.mem List.mem_cons_self) fun H' e' => ⟨_, rfl, bxs_mono e' hset⟩
    rw [putO_hd] at a1
    exact eo.nx _ _ _ _ h a1⟩⟩⟩)
where
  paired_set {α β : Type} {F : α → β → Prop} : ∀ {l : List α} {m : List β} {j : Nat} {x : α} {y : β}, Paired F l m → F x y → Paired F (l.set j x) (m.set j y)
    | _, _, _, _, _, .nil, _ => .nil
    | _, _, 0, _, _, .cons _ r, h => .cons h r
    | _, _, j + 1, _, _, .cons a r, h => .cons a (paired_set r h)
end
end
end SQ
end
section
set_option maxHeartbeats 400000
namespace SQ
open PySem PySem.Spec PyProof.Rows L2
/-! the plain functions that the text computes -/
/-- the bases of the bounds -/
def bsV (b : Nat) (n i : Int) : Int := match b with
  | 0 => 0
  | 1 => n / 2
  | 2 => (n + 1) / 2
  | 3 => n
  | 4 => i
  | _ => n - i
def endV (a : Nat) (n i : Int) : Int := bsV (a / 3) n i + ((a % 3 : Nat) - 1)
structure Lp where
  a : Nat
  b : Nat
  d : Bool
  deriving DecidableEq
def Lp.t (l : Lp) : Str := endT l.a ++ " to " ++ endT l.b ++ (if l.d = true then (" down" : Str) else ("" : Str))
def Lp.w (l : Lp) : List Str := endT l.a :: "to" :: endT l.b :: (if l.d then ["down"] else [])
def Lp.ok (l : Lp) (m : Nat) : Prop := l.a < m ∧ l.b < m
abbrev Cell := Int × Int
def cV (c : Cell) : List V := [.int c.1, .int c.2]
def rC (c : Cell) : VP := rTr (cV c)
def nmV (c : Nat) (n i j : Int) : Int := match c with
  | 0 => i
  | 1 => j
  | 2 => n - 1 - i
  | _ => n - 1 - j
/-- the eight images -/
def img (n : Int) (i j : Int) : List Cell := [(i, j), (j, i), (i, n - 1 - j), (n - 1 - j, i), (n - 1 - i, j), (j, n - 1 - i), (n - 1 - i, n - 1 - j), (n - 1 - j, n - 1 - i)]
theorem atI_k {α : Type} {xs : List α} {x : α} {i : Int} (k : Nat) (h : xs[k]? = some x) (hi : i = (k : Nat) := by rfl) : atI xs i = some x := by
  subst hi
  have hl : k < xs.length := (List.getElem?_eq_some_iff.mp h).1
  unfold atI ixN
  rw [if_pos (Int.natCast_nonneg k), if_pos (by omega)]
  exact h
theorem atI_neg {α : Type} {xs : List α} {x : α} {i : Int} (k : Nat) (h : xs[k]? = some x) (hi : i + xs.length = (k : Nat)) (h0 : i < 0) : atI xs i = some x := by
  unfold atI ixN
  rw [if_neg (by omega), if_pos (by omega), hi]
  exact h
theorem endT_split : ∀ a, a < 18 → (endT a).length ≤ 20 := by decide +kernel
end SQ
end
section
set_option maxHeartbeats 400000
namespace SQ
open PySem PySem.Spec PyProof.Rows L2
open PySem.StrLaws
/-! texts: split behind join -/
def lj (c : Nat) : List (List Nat) → List Nat
  | [] => []
  | [p] => p
  | p :: q :: r => p ++ c :: lj c (q :: r)
theorem lj_inj {c : Nat} : ∀ {a b : List (List Nat)}, a ≠ [] → b ≠ [] → (∀ p ∈ a, c ∉ p) → (∀ p ∈ b, c ∉ p) → lj c a = lj c b → a = b
  | [], _, h, _, _, _, _ => absurd rfl h
  | _, [], _, h, _, _, _ => absurd rfl h
  | [p], [q], _, _, _, _, e => by simp [lj] at e; rw [e]
  | [p], q :: q2 :: r, _, _, ha, _, e => by
    have e2 : p = q ++ c :: lj c (q2 :: r) := e
    exact absurd (by rw [e2]; simp) (ha p List.mem_cons_self)
  | p :: p2 :: r, [q], _, _, _, hb, e => by
    have e2 : p ++ c :: lj c (p2 :: r) = q := e
    exact absurd (by rw [← e2]; simp) (hb q List.mem_cons_self)
  | p :: p2 :: r, q :: q2 :: t, _, _, ha, hb, e => by
    have e2 : p ++ c :: lj c (p2 :: r) = q ++ c :: lj c (q2 :: t) := e
    have key : ∀ {x y u v : List Nat}, c ∉ x → c ∉ y → x ++ c :: u = y ++ c :: v → x = y ∧ u = v := by
      intro x
      induction x with
      | nil =>
        intro y u v _ hy h
        cases y with
        | nil => simp at h; exact ⟨rfl, h⟩
        | cons a y => simp at h; exact absurd (by rw [← h.1]; exact List.mem_cons_self) hy
      | cons a x ih =>
        intro y u v hx hy h
        cases y with
        | nil => simp at h; exact absurd (by rw [h.1]; exact List.mem_cons_self) hx
        | cons b y =>
          simp at h
          obtain ⟨h1, h2⟩ := ih (fun z => hx (List.mem_cons_of_mem _ z)) (fun z => hy (List.mem_cons_of_mem _ z)) h.2
          exact ⟨by rw [h.1, h1], h2⟩
    obtain ⟨h1, h2⟩ := key (ha p List.mem_cons_self) (hb q List.mem_cons_self) e2
    rw [h1, lj_inj (by simp) (by simp) (fun z hz => ha z (List.mem_cons_of_mem _ hz)) (fun z hz => hb z (List.mem_cons_of_mem _ hz)) h2]
theorem join_list (c : Nat) : ∀ ps : List Str, (Str.join ⟨#[c]⟩ ps).cps.toList = lj c (ps.map fun p => p.cps.toList)
  | [] => rfl
  | [p] => rfl
  | p :: q :: r => by
    have ih := join_list c (q :: r)
    show (p ++ (⟨#[c]⟩ : Str) ++ Str.join ⟨#[c]⟩ (q :: r)).cps.toList = _
    rw [Str.cps_append, Str.cps_append, Array.toList_append, Array.toList_append, ih]
    show p.cps.toList ++ [c] ++ _ = p.cps.toList ++ c :: _
    rw [List.append_assoc]
    rfl
theorem split_ne (x : Str) (c : Nat) : Txt.split x ⟨#[c]⟩ ≠ [] := by
  unfold Txt.split
  split
  · simp
  · split
    · simp
    · rw [partsBetween_eq]
      obtain ⟨p, r, e⟩ := partsFrom_ne x (⟨#[c]⟩ : Str).length 0 (Builtin.Str.occurrences x ⟨#[c]⟩ 0 x.length (x.length + 1))
      rw [e]
      simp
theorem str_inj : ∀ {a b : List Str}, a.map (fun p => p.cps.toList) = b.map (fun p => p.cps.toList) → a = b
  | [], [], _ => rfl
  | [], _ :: _, h => by simp at h
  | _ :: _, [], h => by simp at h
  | x :: a, y :: b, h => by
    simp only [List.map_cons, List.cons.injEq] at h
    rw [Str.ext' (Array.toList_inj.mp h.1), str_inj h.2]
theorem split_join {c : Nat} {ps : List Str} (hne : ps ≠ []) (hf : ∀ p ∈ ps, c ∉ p.cps.toList) : Txt.split (Str.join ⟨#[c]⟩ ps) ⟨#[c]⟩ = ps := by
  have e : Str.join ⟨#[c]⟩ (Txt.split (Str.join ⟨#[c]⟩ ps) ⟨#[c]⟩) = Str.join ⟨#[c]⟩ ps := join_split _ _
  have e2 := congrArg (fun z : Str => z.cps.toList) e
  simp only [join_list] at e2
  refine str_inj (lj_inj (by simpa using split_ne _ _) (by simpa using hne) (fun p hp => ?_) (fun p hp => ?_) e2)
  · obtain ⟨q, hq, rfl⟩ := List.mem_map.mp hp
    exact split_free _ c q hq
  · obtain ⟨q, hq, rfl⟩ := List.mem_map.mp hp
    exact hf q hq

theorem sp_eq : (" " : Str) = ⟨#[32]⟩ := by decide +kernel
theorem endT_free : ∀ a, a < 18 → 32 ∉ (endT a).cps.toList := by decide +kernel
theorem split_sp {ps : List Str} (hne : ps ≠ []) (hf : ∀ p ∈ ps, 32 ∉ p.cps.toList) : Txt.split (Str.join " " ps) " " = ps := by
  rw [sp_eq]
  exact split_join hne hf
theorem Lp.t_join (l : Lp) : l.t = Str.join " " l.w := by
  obtain ⟨a, b, d⟩ := l
  cases d with
  | true =>
    show endT a ++ " to " ++ endT b ++ " down" = endT a ++ " " ++ ("to" ++ " " ++ (endT b ++ " " ++ "down"))
    have e1 : (" to " : Str) = " " ++ "to" ++ " " := by decide +kernel
    have e2 : (" down" : Str) = " " ++ "down" := by decide +kernel
    rw [e1, e2]
    simp only [Str.append_assoc]
  | false =>
    show endT a ++ " to " ++ endT b ++ "" = endT a ++ " " ++ ("to" ++ " " ++ endT b)
    have e1 : (" to " : Str) = " " ++ "to" ++ " " := by decide +kernel
    have e2 : ("" : Str) = Str.empty := by decide +kernel
    rw [e1, e2, Str.append_empty]
    simp only [Str.append_assoc]
theorem Lp.w_free {l : Lp} {m : Nat} (h : l.ok m) (hm : m ≤ 18) : ∀ p ∈ l.w, 32 ∉ p.cps.toList := by
  obtain ⟨a, b, d⟩ := l
  obtain ⟨h1, h2⟩ := h
  intro p hp
  have f1 := endT_free a (Nat.lt_of_lt_of_le h1 hm)
  have f2 := endT_free b (Nat.lt_of_lt_of_le h2 hm)
  have f3 : 32 ∉ ("to" : Str).cps.toList := by decide +kernel
  have f4 : 32 ∉ ("down" : Str).cps.toList := by decide +kernel
  cases d with
  | true =>
    have hp : p ∈ [endT a, "to", endT b, "down"] := hp
    simp only [List.mem_cons, List.not_mem_nil, or_false] at hp
    rcases hp with rfl | rfl | rfl | rfl <;> assumption
  | false =>
    have hp : p ∈ [endT a, "to", endT b] := hp
    simp only [List.mem_cons, List.not_mem_nil, or_false] at hp
    rcases hp with rfl | rfl | rfl <;> assumption
theorem Lp.split {l : Lp} {m : Nat} (h : l.ok m) (hm : m ≤ 18) : Txt.split l.t " " = l.w := by
  rw [l.t_join]
  refine split_sp ?_ (l.w_free h hm)
  obtain ⟨a, b, d⟩ := l
  simp [Lp.w]
theorem len_app (a b : Str) : (a ++ b).length = a.length + b.length := Str.length_append a b
theorem Lp.len {l : Lp} {m : Nat} (h : l.ok m) (hm : m ≤ 18) : l.t.length ≤ 60 := by
  obtain ⟨a, b, d⟩ := l
  have f1 := endT_split a (Nat.lt_of_lt_of_le h.1 hm)
  have f2 := endT_split b (Nat.lt_of_lt_of_le h.2 hm)
  have e1 : (" to " : Str).length = 4 := by decide +kernel
  have e2 : (if d = true then (" down" : Str) else ("" : Str)).length ≤ 5 := by cases d <;> decide +kernel
  unfold Lp.t
  rw [len_app, len_app, len_app, e1]
  dsimp only
  omega
theorem subAt_end (a b : Str) : Builtin.Str.subAt (a ++ b) b ((a ++ b).length - b.length) = true := by
  rw [subAt_eq, len_app, Nat.add_sub_cancel]
  have e : (a ++ b).cps.toList = a.cps.toList ++ b.cps.toList := by rw [Str.cps_append, Array.toList_append]
  have e2 : a.cps.toList.length = a.length := by simp [Str.length]
  have e3 : b.cps.toList.length = b.length := by simp [Str.length]
  rw [e, ← e2, List.drop_left, ← e3, List.take_length]
  simp
theorem ends_app (a b : Str) : Txt.endswith (a ++ b) b = true := by
  unfold Txt.endswith
  rw [subAt_end, len_app]
  simp
theorem ends_more (a y b : Str) (h : b.length ≤ y.length) : Txt.endswith (a ++ y) b = Txt.endswith y b := by
  unfold Txt.endswith
  have e : (a ++ y).cps.toList = a.cps.toList ++ y.cps.toList := by rw [Str.cps_append, Array.toList_append]
  have e2 : a.cps.toList.length = a.length := by simp [Str.length]
  have h1 : decide (0 + b.length ≤ (a ++ y).length) = true := by rw [len_app]; exact decide_eq_true (by omega)
  have h2 : decide (0 + b.length ≤ y.length) = true := decide_eq_true (by omega)
  rw [h1, h2, subAt_eq, subAt_eq, e, len_app]
  have e3 : a.length + y.length - b.length = a.cps.toList.length + (y.length - b.length) := by rw [e2]; omega
  rw [e3, ← List.drop_drop, List.drop_left]
theorem endT_down : ∀ b, b < 18 → Txt.endswith (" to " ++ endT b) " down" = false ∧ (" down" : Str).length ≤ (" to " ++ endT b).length := by decide +kernel
theorem Lp.down {l : Lp} {m : Nat} (h : l.ok m) (hm : m ≤ 18) : Txt.endswith l.t " down" = l.d := by
  obtain ⟨a, b, d⟩ := l
  cases d with
  | true => exact ends_app _ _
  | false =>
    have e2 : ("" : Str) = Str.empty := by decide +kernel
    have et : Lp.t ⟨a, b, false⟩ = endT a ++ (" to " ++ endT b) := by
      show endT a ++ " to " ++ endT b ++ "" = _
      rw [e2, Str.append_empty, Str.append_assoc]
    obtain ⟨h1, h2⟩ := endT_down b (Nat.lt_of_lt_of_le h.2 hm)
    rw [et, ends_more _ _ _ h2]
    exact h1
end SQ
end
section
set_option maxHeartbeats 400000
namespace SQ
open PySem PySem.Spec PyProof.Rows L2 StX ClX
noncomputable section
section
variable {P : Program} {w : World} {K : PySem.W.Frag} {mg : Str → Option Value} {base : Heap} {A : Ad}
theorem mem_range_map {α : Type} {f : Nat → α} {n a : Nat} (h : a < n) : f a ∈ (List.range n).map f := List.mem_map.mpr ⟨a, List.mem_range.mpr h, rfl⟩
theorem tu2 {K : PySem.W.Frag} {t : Addr} {xs : List V} (k : KTup K t xs) : ∀ v H, Bx (is (.ref t)) v H → Bx (rTu K (xs.map is)) v H := fun v H b => by
  rw [b.eq]
  exact bx_tu (.inr k) (is_bxs xs)
theorem sc_bound_value : FnScope ["bound", "size", "i", "base", "step"] ["bound", "size", "i"] (defScope (top 4)) := ⟨rfl, rfl, rfl, by decide +kernel, rfl, by decide +kernel, by decide +kernel⟩
theorem bs_ne : ∀ b, b < 6 → ∀ c, c < 6 → b ≠ c → ¬ bsT b = bsT c := by decide +kernel
theorem fn_bound_value (T : Tx K w mg A) {a : Nat} {n i : Int} {Pi : VP} (h : a < 12 ∨ (a < 18 ∧ Pi = is (.int i))) : FnG P w K mg base "bound_value" 1 [is (.str (endT a)), is (.int n), Pi] [] [] (is (.int (endV a n i))) :=
  fng_of T.d_bound_value sc_bound_value rfl (fun _ _ _ _ _ _ us hl => match us, hl with | [_, _, _], _ => rfl) fun f cdv A outer s H E hr => by
  obtain ⟨o, es, no, ho, ko, kvo, nno⟩ := T.g_OUTER
  obtain ⟨p, es2, np, hp, kp, kvp, _⟩ := T.g_INNER
  have ha : a < 18 := by omega
  have hb : a / 3 < 6 := by omega
  -- base, step = OUTER[bound] if bound in OUTER else INNER[bound]
  refine dss_asg (W' := []) (P := rTu K [is (.str (bsT (a / 3))), is (.int ((a % 3 : Nat) - 1))]) ?_ (dg_tup (dgs_cons (dg_name 3 sc_bound_value.nd) (dgs_cons (dg_name 4 sc_bound_value.nd) dgs_nil))) ?_
  · by_cases h12 : a < 12
    · obtain ⟨u, v, h1, h2, t, rfl, h3⟩ := kvo _ (mem_range_map (f := fun a => (endT a, a)) h12)
      exact de_if (k := true) (dt_cmp (od_inKT ko h1) (de_var 0) (de_gc ho)) (fun _ => de_to (de_kdget ko (de_gc ho) (de_var 0) h1 h2) (tu2 h3)) (fun z => nomatch z)
    · obtain ⟨c, rfl⟩ : ∃ c, a = 12 + c := ⟨a - 12, by omega⟩
      obtain ⟨u, v, h1, h2, t, rfl, h3⟩ := kvp _ (mem_range_map (f := fun a => (endT (12 + a), 12 + a)) (show c < 6 by omega))
      have hno := nno _ (mem_range_map (f := fun a => endT (12 + a)) (show c < 6 by omega))
      exact de_if (k := false) (dt_cmp (od_inKF ko hno) (de_var 0) (de_gc ho)) (fun z => nomatch z) (fun _ => de_to (de_kdget kp (de_gc hp) (de_var 0) h1 h2) (tu2 h3))
  generalize hz : ((a % 3 : Nat) : Int) - 1 = z
  have e : endV a n i = bsV (a / 3) n i + z := by rw [← hz]; rfl
  rw [e]
  have hP : 4 ≤ a / 3 → Pi = is (.int i) := fun q => by
    rcases h with h | h
    · omega
    · exact h.2
  generalize a / 3 = b at hb hP ⊢
  have ifN : ∀ {cl : Nat} {s : Str} {b : Nat} {W : Ow}, s = bsT cl → cl < 6 → b < 6 → cl ≠ b → OpD (Xb P w K mg base ["bound", "size", "i", "base", "step"] "bound_value" (defScope (top 4)) f cdv A outer ‹_› H E) W (compareOp .Eq) (is (.str (bsT b))) (is (.str s)) (is (.bl false)) := fun {cl s b W} es h1 h2 h3 => by
    have z : decide (bsT b = s) = false := decide_eq_false (by rw [es]; exact bs_ne b h2 cl h1 (Ne.symm h3))
    rw [← z]
    exact od_eqS
  have ifT : ∀ {b : Nat} {s : Str} {W : Ow}, s = bsT b → OpD (Xb P w K mg base ["bound", "size", "i", "base", "step"] "bound_value" (defScope (top 4)) f cdv A outer ‹_› H E) W (compareOp .Eq) (is (.str (bsT b))) (is (.str s)) (is (.bl true)) := fun {b s W} es => by
    have z : decide (bsT b = s) = true := decide_eq_true es.symm
    rw [← z]
    exact od_eqS
  have e4 : ("i" : Str) = bsT 4 := by decide +kernel
  have e5 : ("n-i" : Str) = bsT 5 := by decide +kernel
  have e1 : ("n//2" : Str) = bsT 1 := by decide +kernel
  have e2 : ("(n+1)//2" : Str) = bsT 2 := by decide +kernel
  have e3 : ("n" : Str) = bsT 3 := by decide +kernel
  by_cases h4 : b = 4
  · subst h4
    have := hP (by omega)
    subst this
    refine dss_ifT (dt_cmp (ifT e4) (de_var 3) de_str) ?_
    exact dss_ret (de_bin od_add (de_var 2) (de_var 4)) (rt_same)
  refine dss_ifF (dt_cmp (ifN e4 (by omega) hb (Ne.symm h4)) (de_var 3) de_str) ?_
  by_cases h5 : b = 5
  · subst h5
    have := hP (by omega)
    subst this
    refine dss_ifT (dt_cmp (ifT e5) (de_var 3) de_str) ?_
    exact dss_ret (de_bin od_add (de_bin od_sub (de_var 1) (de_var 2)) (de_var 4)) (rt_same)
  refine dss_ifF (dt_cmp (ifN e5 (by omega) hb (Ne.symm h5)) (de_var 3) de_str) ?_
  by_cases h1 : b = 1
  · subst h1
    refine dss_ifT (dt_cmp (ifT e1) (de_var 3) de_str) ?_
    exact dss_ret (de_bin od_add (de_bin (od_fdiv (by decide) (by decide)) (de_var 1) de_int) (de_var 4)) (rt_same)
  refine dss_ifF (dt_cmp (ifN e1 (by omega) hb (Ne.symm h1)) (de_var 3) de_str) ?_
  by_cases h2 : b = 2
  · subst h2
    refine dss_ifT (dt_cmp (ifT e2) (de_var 3) de_str) ?_
    exact dss_ret (de_bin od_add (de_bin (od_fdiv (by decide) (by decide)) (de_bin od_add (de_var 1) de_int) de_int) (de_var 4)) (rt_same)
  refine dss_ifF (dt_cmp (ifN e2 (by omega) hb (Ne.symm h2)) (de_var 3) de_str) ?_
  by_cases h3 : b = 3
  · subst h3
    exact dss_ret (de_if (k := true) (dt_cmp (ifT e3) (de_var 3) de_str) (fun _ => (de_bin od_add (de_var 1) (de_var 4))) (fun z => nomatch z)) (rt_same)
  have h0 : b = 0 := by omega
  subst h0
  refine dss_ret (P := is (.int z)) (de_if (k := false) (dt_cmp (ifN e3 (by omega) hb (by omega)) (de_var 3) de_str) (fun z => nomatch z) (fun _ => (de_var 4))) ?_
  have e0 : bsV 0 n i + z = z := Int.zero_add z
  rw [e0]
  exact rt_same
end
end
end SQ
end
section
set_option maxHeartbeats 400000
namespace SQ
open PySem PySem.Spec PyProof.Rows L2 StX ClX
noncomputable section
section
variable {P : Program} {w : World} {K : PySem.W.Frag} {mg : Str → Option Value} {base : Heap} {A : Ad}
theorem sc_is_bound : FnScope ["word", "inner"] ["word", "inner"] (defScope (top 5)) := ⟨rfl, rfl, rfl, by decide +kernel, rfl, by decide +kernel, by decide +kernel⟩
theorem fn_is_bound (T : Tx K w mg A) {a : Nat} {inn : Bool} (h : a < 12 ∨ (a < 18 ∧ inn = true)) : FnG P w K mg base "is_bound" 1 [is (.str (endT a)), is (.bl inn)] [] [] (is (.bl true)) :=
  fng_of T.d_is_bound sc_is_bound rfl (fun _ _ _ _ _ _ us hl => match us, hl with | [_, _], _ => rfl) fun f cdv A outer s H E hr => by
  obtain ⟨o, es, no, ho, ko, kvo, nno⟩ := T.g_OUTER
  obtain ⟨p, es2, np, hp, kp, kvp, _⟩ := T.g_INNER
  by_cases h12 : a < 12
  · obtain ⟨u, v, h1, h2, t, rfl, h3⟩ := kvo _ (mem_range_map (f := fun a => (endT a, a)) h12)
    exact dss_ret (de_or (k := true) (l := true) (de_cmp (od_inKT ko h1) (de_var 0) (de_gc ho)) fun z => nomatch z) rt_same
  · obtain ⟨c, rfl⟩ : ∃ c, a = 12 + c := ⟨a - 12, by omega⟩
    obtain ⟨u, v, h1, h2, t, rfl, h3⟩ := kvp _ (mem_range_map (f := fun a => (endT (12 + a), 12 + a)) (show c < 6 by omega))
    have hno := nno _ (mem_range_map (f := fun a => endT (12 + a)) (show c < 6 by omega))
    have hi : inn = true := by rcases h with h | h; omega; exact h.2
    subst hi
    exact dss_ret (de_or (k := false) (de_cmp (od_inKF ko hno) (de_var 0) (de_gc ho)) fun _ => de_one (de_and (k := true) (de_var 1) fun _ => de_one (de_cmp (od_inKT kp h1) (de_var 0) (de_gc hp)))) rt_same
theorem Lp.w_ix0 (l : Lp) : l.w[0]? = some (endT l.a) := by cases l; rfl
theorem sc_goes_down : FnScope ["loop"] ["loop"] (defScope (top 7)) := ⟨rfl, rfl, rfl, by decide +kernel, rfl, by decide +kernel, by decide +kernel⟩
theorem fn_goes_down (T : Tx K w mg A) {l : Lp} {m : Nat} (h : l.ok m) (hm : m ≤ 18) : FnG P w K mg base "goes_down" 1 [is (.str l.t)] [] [] (is (.bl l.d)) :=
  fng_of T.d_goes_down sc_goes_down rfl (fun _ _ _ _ _ _ us hl => match us, hl with | [_], _ => rfl) fun f cdv A outer s H E hr => by
  have e := l.down h hm
  refine dss_ret (de_endswith (de_var 0) de_str) ?_
  rw [e]
  exact rt_same
def lmax (x y : Int) : Int := if y > x then y else x
theorem Lp.ws (l : Lp) : ∃ r, l.w.map (fun t => is (.str t)) = is (.str (endT l.a)) :: is (.str "to") :: is (.str (endT l.b)) :: r := ⟨_, rfl⟩
theorem sc_loop_range : FnScope ["loop", "size", "i", "words", "low"] ["loop", "size", "i"] (defScope (top 8)) := ⟨rfl, rfl, rfl, by decide +kernel, rfl, by decide +kernel, by decide +kernel⟩
theorem fn_loop_range (T : Tx K w mg A) {l : Lp} {n i : Int} {Pi : VP} (h : l.ok 12 ∨ (l.ok 18 ∧ Pi = is (.int i))) : FnG P w K mg base "loop_range" 2 [is (.str l.t), is (.int n), Pi] [] [] (rTr [.int (endV l.a n i), .int (lmax (endV l.a n i) (endV l.b n i)), .bl l.d]) :=
  fng_of T.d_loop_range sc_loop_range rfl (fun _ _ _ _ _ _ us hl => match us, hl with | [_, _, _], _ => rfl) fun f cdv A outer s H E hr => by
  have h18 : l.ok 18 := h.elim (fun z => ⟨by have := z.1; omega, by have := z.2; omega⟩) (·.1)
  have es := l.split h18 (Nat.le_refl _)
  have ha : l.a < 12 ∨ (l.a < 18 ∧ Pi = is (.int i)) := h.imp (·.1) fun z => ⟨z.1.1, z.2⟩
  have hb : l.b < 12 ∨ (l.b < 18 ∧ Pi = is (.int i)) := h.imp (·.2) fun z => ⟨z.1.2, z.2⟩
  obtain ⟨r, er⟩ := l.ws
  -- words = loop.split(' ')
  refine dss_set 3 (de_split (de_var 0) de_str (by decide) (Nat.le_trans (l.len h18 (Nat.le_refl _)) (by decide))) ?_ sc_loop_range.nd
  rw [es, er]
  -- low = bound_value(words[0], size, i)
  refine dss_set 4 (de_call (fn_bound_value T ha) hr (da_cons (de_ixL (de_var 3) de_int (atI_k 0 rfl)) (da_cons (de_var 1) (da_cons (de_var 2) da_nil)))) ?_ sc_loop_range.nd
  -- return (low, max(low, bound_value(words[2], size, i)), goes_down(loop))
  exact dss_ret (de_tupV [_, _, _] (da_cons (de_var 4) (da_cons (de_bi (ca_max2) T.n_max boot_max (da_cons (de_var 4) (da_cons (de_call (fn_bound_value T hb) hr (da_cons (de_ixL (de_var 3) de_int (atI_k 2 rfl)) (da_cons (de_var 1) (da_cons (de_var 2) da_nil)))) da_nil))) (da_cons (de_call (fn_goes_down T h18 (Nat.le_refl _)) hr (da_cons (de_var 0) da_nil)) da_nil)))) rt_same
/-- x is in the loop -/
def inL (l : Lp) (n i x : Int) : Bool := decide (endV l.a n i ≤ x) && decide (x < endV l.b n i)
theorem inL_max {l : Lp} {n i x : Int} : (decide (endV l.a n i ≤ x) && decide (x < lmax (endV l.a n i) (endV l.b n i))) = inL l n i x := by
  unfold inL lmax
  by_cases h1 : endV l.a n i ≤ x
  · by_cases h2 : endV l.b n i > endV l.a n i
    · rw [if_pos h2]
    · rw [if_neg h2]
      have h3 : ¬ x < endV l.a n i := by omega
      have h4 : ¬ x < endV l.b n i := by omega
      simp [h3, h4]
  · simp [h1]
theorem sc_in_loop : FnScope ["loop", "size", "i", "number", "low", "high", "down"] ["loop", "size", "i", "number"] (defScope (top 9)) := ⟨rfl, rfl, rfl, by decide +kernel, rfl, by decide +kernel, by decide +kernel⟩
theorem fn_in_loop (T : Tx K w mg A) {l : Lp} {n i x : Int} {Pi : VP} (h : l.ok 12 ∨ (l.ok 18 ∧ Pi = is (.int i))) : FnG P w K mg base "in_loop" 3 [is (.str l.t), is (.int n), Pi, is (.int x)] [] [] (is (.bl (inL l n i x))) :=
  fng_of T.d_in_loop sc_in_loop rfl (fun _ _ _ _ _ _ us hl => match us, hl with | [_, _, _, _], _ => rfl) fun f cdv A outer s H E hr => by
  -- low, high, down = loop_range(loop, size, i)
  refine dss_asg (de_call (fn_loop_range T (i := i) h) hr (da_cons (de_var 0) (da_cons (de_var 1) (da_cons (de_var 2) da_nil)))) (dg_tupV (dgs_cons (dg_name 4 sc_in_loop.nd) (dgs_cons (dg_name 5 sc_in_loop.nd) (dgs_cons (dg_name 6 sc_in_loop.nd) dgs_nil)))) ?_
  -- return low <= number < high
  refine dss_ret (de_chain od_le (fun _ => od_lt) (de_var 4) (de_var 3) (fun _ => (de_var 5))) ?_
  rw [inL_max]
  exact rt_same
theorem sc_is_loop : FnScope ["value", "inner", "words"] ["value", "inner"] (defScope (top 6)) := ⟨rfl, rfl, rfl, by decide +kernel, rfl, by decide +kernel, by decide +kernel⟩
theorem fn_is_loop (T : Tx K w mg A) {l : Lp} {inn : Bool} (h : l.ok 12 ∨ (l.ok 18 ∧ inn = true)) : FnG P w K mg base "is_loop" 2 [is (.str l.t), is (.bl inn)] [] [] (is (.bl true)) :=
  fng_of T.d_is_loop sc_is_loop rfl (fun _ _ _ _ _ _ us hl => match us, hl with | [_, _], _ => rfl) fun f cdv A outer s H E hr => by
  have h18 : l.ok 18 := h.elim (fun z => ⟨by have := z.1; omega, by have := z.2; omega⟩) (·.1)
  have es := l.split h18 (Nat.le_refl _)
  have ha : l.a < 12 ∨ (l.a < 18 ∧ inn = true) := h.imp (·.1) fun z => ⟨z.1.1, z.2⟩
  have hb : l.b < 12 ∨ (l.b < 18 ∧ inn = true) := h.imp (·.2) fun z => ⟨z.1.2, z.2⟩
  -- if not isinstance(value, str):
  refine dss_ifF (dt_not (k := true) (dt_val (de_bi (ca_isi (ty_str)) T.n_isinstance boot_isinstance (da_cons (de_var 0) (da_cons (de_bty T.n_str boot_str) da_nil))))) ?_
  -- words = value.split(' ')
  refine dss_set 2 (de_split (de_var 0) de_str (by decide) (Nat.le_trans (l.len h18 (Nat.le_refl _)) (by decide))) ?_ sc_is_loop.nd
  rw [es]
  have fin : ∀ {r : List VP} {X : Cx} (hX : X = Xb P w K mg base ["value", "inner", "words"] "is_loop" (defScope (top 6)) f cdv A outer s H E), r = [is (.str (endT l.a)), is (.str "to"), is (.str (endT l.b))] →
      DSs X [some (is (.str l.t)), some (is (.bl inn)), some (rLi K r)] [] [(defBody (top 6))[3]!, (defBody (top 6))[4]!] (retD (is (.bl true)) []) := fun {r X} hX e => by
    subst hX e
    -- if len(words) != 3 or words[1] != 'to':
    refine dss_ifF (dt_of (dw_or (k := false) (l := false) (dt_cmp od_neI (de_bi ca_lenL T.n_len boot_len (da_cons (de_var 2) da_nil)) de_int) fun _ => (dw_or1 (dt_cmp od_neS (de_ixL (de_var 2) de_int rfl) de_str)))) ?_
    -- return is_bound(words[0], inner) and is_bound(words[2], inner)
    exact dss_ret (de_and (k := true) (l := true) (de_call (fn_is_bound T ha) hr (da_cons (de_ixL (de_var 2) de_int rfl) (da_cons (de_var 1) da_nil))) fun _ => (de_one (de_call (fn_is_bound T hb) hr (da_cons (de_ixL (de_var 2) de_int rfl) (da_cons (de_var 1) da_nil))))) rt_same
  obtain ⟨a, b, d⟩ := l
  cases d with
  | true =>
    -- if len(words) == 4 and words[3] == 'down':
    refine dss_ifT (dt_of (dw_and (k := true) (l := true) (dt_cmp od_eqI (de_bi ca_lenL T.n_len boot_len (da_cons (de_var 2) da_nil)) de_int) fun _ => (dw_and1 (dt_cmp od_eqS (de_ixL (de_var 2) de_int rfl) de_str)))) ?_
    -- words = words[:3]
    refine dss_set 2 (de_slL (de_var 2) do_none (do_some de_int)) (dss_nil ?_) sc_is_loop.nd
    exact fin rfl rfl
  | false =>
    refine dss_ifF (dt_of (dw_and (k := false) (l := false) (dt_cmp od_eqI (de_bi ca_lenL T.n_len boot_len (da_cons (de_var 2) da_nil)) de_int) fun z => nomatch z)) ?_
    exact fin rfl rfl
end
end
end SQ
end
section
set_option maxHeartbeats 400000
namespace SQ
open PySem PySem.Spec PyProof.Rows L2 StX ClX
noncomputable section
def nmT (c : Nat) : Str := nmTs.getD c ""
def sgT (c : Nat) : Str := sgTs.getD c ""
def plT (c : Nat) : Str := plTs.getD c ""
def wdT (c : Nat) : Str := wdTs.getD c ""
def plN : List (Nat × Nat) := [(0, 1), (1, 0), (0, 3), (3, 0), (2, 1), (1, 2), (2, 3), (3, 2)]
theorem nm_j : ∀ c, c < 4 → Txt.endswith (nmT c) "j" = decide (c % 2 = 1) := by decide +kernel
theorem nm_t : ∀ c, c < 4 → Txt.startswith (nmT c) "~" = decide (2 ≤ c) := by decide +kernel
theorem pl_split : ∀ s, s < 8 → Txt.split (plT s) "," = [nmT (plN.getD s (0, 0)).1, nmT (plN.getD s (0, 0)).2] ∧ (plT s).length ≤ 100 ∧ (plN.getD s (0, 0)).1 < 4 ∧ (plN.getD s (0, 0)).2 < 4 := by decide +kernel
theorem pl_img {n i j : Int} : ∀ s, s < 8 → (nmV (plN.getD s (0, 0)).1 n i j, nmV (plN.getD s (0, 0)).2 n i j) = (img n i j).getD s (0, 0)
  | 0, _ => rfl
  | 1, _ => rfl
  | 2, _ => rfl
  | 3, _ => rfl
  | 4, _ => rfl
  | 5, _ => rfl
  | 6, _ => rfl
  | 7, _ => rfl
  | s + 8, h => by omega
abbrev Gd3 := Option (Nat × Nat × Nat)
def Gd3.ok : Gd3 → Prop
  | none => True
  | some (a, s, b) => a < 4 ∧ s < 4 ∧ b < 4 ∧ a ≠ b
def Gd3.w : Gd3 → List Str
  | none => []
  | some (a, s, b) => [nmT a, sgT s, nmT b]
def cmpV (s : Nat) (x y : Int) : Bool := match s with
  | 0 => decide (x < y)
  | 1 => decide (x ≤ y)
  | 2 => decide (x = y)
  | _ => !decide (x = y)
def Gd3.v (g : Gd3) (n i j : Int) : Bool := match g with
  | none => true
  | some (a, s, b) => cmpV s (nmV a n i j) (nmV b n i j)
section
variable {P : Program} {w : World} {K : PySem.W.Frag} {mg : Str → Option Value} {base : Heap} {A : Ad}
theorem sc_number_of : FnScope ["name", "size", "i", "j", "number"] ["name", "size", "i", "j"] (defScope (top 25)) := ⟨rfl, rfl, rfl, by decide +kernel, rfl, by decide +kernel, by decide +kernel⟩
theorem fn_number_of (T : Tx K w mg A) {c : Nat} {n i j : Int} (h : c < 4) : FnG P w K mg base "number_of" 1 [is (.str (nmT c)), is (.int n), is (.int i), is (.int j)] [] [] (is (.int (nmV c n i j))) :=
  fng_of T.d_number_of sc_number_of rfl (fun _ _ _ _ _ _ us hl => match us, hl with | [_, _, _, _], _ => rfl) fun f cdv A outer s H E hr => by
  have e1 := nm_j c h
  have e2 := nm_t c h
  -- number = j if name.endswith('j') else i
  refine dss_set (W' := []) (P := is (.int (if c % 2 = 1 then j else i))) 4 (de_if (k := decide (c % 2 = 1)) (dt_val ?_) (fun z => ?_) (fun z => ?_)) ?_ sc_number_of.nd
  · rw [← e1]
    exact de_endswith (de_var 0) de_str
  · rw [if_pos (of_decide_eq_true z)]
    exact de_var 3
  · rw [if_neg (of_decide_eq_false z)]
    exact de_var 2
  -- return size - 1 - number if name.startswith('~') else number
  refine dss_ret (W' := []) (P := is (.int (nmV c n i j))) (de_if (k := decide (2 ≤ c)) (dt_val ?_) (fun z => ?_) (fun z => ?_)) rt_same
  · rw [← e2]
    exact de_startswith (de_var 0) de_str
  · have e : nmV c n i j = n - 1 - (if c % 2 = 1 then j else i) := by
      have := of_decide_eq_true z
      rcases (show c = 2 ∨ c = 3 by omega) with rfl | rfl <;> rfl
    rw [e]
    exact de_bin od_sub (de_bin od_sub (de_var 1) de_int) (de_var 4)
  · have e : nmV c n i j = (if c % 2 = 1 then j else i) := by
      have := of_decide_eq_false z
      rcases (show c = 0 ∨ c = 1 by omega) with rfl | rfl <;> rfl
    rw [e]
    exact de_var 4
theorem sc_place_cell : FnScope ["place", "size", "i", "j", "row", "column"] ["place", "size", "i", "j"] (defScope (top 26)) := ⟨rfl, rfl, rfl, by decide +kernel, rfl, by decide +kernel, by decide +kernel⟩
theorem fn_place_cell (T : Tx K w mg A) {c : Nat} {n i j : Int} (h : c < 8) : FnG P w K mg base "place_cell" 2 [is (.str (plT c)), is (.int n), is (.int i), is (.int j)] [] [] (rC ((img n i j).getD c (0, 0))) :=
  fng_of T.d_place_cell sc_place_cell rfl (fun _ _ _ _ _ _ us hl => match us, hl with | [_, _, _, _], _ => rfl) fun f cdv A outer s H E hr => by
  obtain ⟨e, hl, h1, h2⟩ := pl_split c h
  have ei := pl_img (n := n) (i := i) (j := j) c h
  -- row, column = place.split(',')
  refine dss_asg (de_eq (P' := rLi K [is (.str (nmT (plN.getD c (0, 0)).1)), is (.str (nmT (plN.getD c (0, 0)).2))]) (de_split (de_var 0) de_str (by decide +kernel) (Nat.le_trans hl (by decide))) (by rw [e]; rfl)) (dg_lst (dgs_cons (dg_name 4 sc_place_cell.nd) (dgs_cons (dg_name 5 sc_place_cell.nd) dgs_nil))) ?_
  rw [← ei]
  -- return (number_of(row, size, i, j), number_of(column, size, i, j))
  exact dss_ret (de_tupV [_, _] (da_cons (de_call (fn_number_of T h1) hr (da_cons (de_var 4) (da_cons (de_var 1) (da_cons (de_var 2) (da_cons (de_var 3) da_nil))))) (da_cons (de_call (fn_number_of T h2) hr (da_cons (de_var 5) (da_cons (de_var 1) (da_cons (de_var 2) (da_cons (de_var 3) da_nil))))) da_nil))) rt_same
theorem sg_ne : ∀ b, b < 4 → ∀ c, c < 4 → decide (sgT b = sgT c) = decide (b = c) := by decide +kernel
theorem nm_ne : ∀ b, b < 4 → ∀ c, c < 4 → decide (nmT b = nmT c) = decide (b = c) := by decide +kernel
theorem sc_holds : FnScope ["guard", "size", "i", "j", "one", "other"] ["guard", "size", "i", "j"] (defScope (top 27)) := ⟨rfl, rfl, rfl, by decide +kernel, rfl, by decide +kernel, by decide +kernel⟩
theorem fn_holds (T : Tx K w mg A) {g : Gd3} {n i j : Int} (h : g.ok) : FnG P w K mg base "holds" 2 [rLi K (g.w.map fun t => is (.str t)), is (.int n), is (.int i), is (.int j)] [] [] (is (.bl (g.v n i j))) :=
  fng_of T.d_holds sc_holds rfl (fun _ _ _ _ _ _ us hl => match us, hl with | [_, _, _, _], _ => rfl) fun f cdv A outer s H E hr => by
  cases g with
  | none =>
    refine dss_ifT (dt_cmp od_eqI (de_bi ca_lenL T.n_len boot_len (da_cons (de_var 0) da_nil)) de_int) ?_
    exact dss_ret de_bl rt_same
  | some g =>
    obtain ⟨a, q, b⟩ := g
    obtain ⟨h1, h2, h3, _⟩ := h
    refine dss_ifF (dt_cmp od_eqI (de_bi ca_lenL T.n_len boot_len (da_cons (de_var 0) da_nil)) de_int) ?_
    -- one, other = (number_of(guard[0], size, i, j), number_of(guard[2], size, i, j))
    refine dss_par 4 5 (da_cons (de_call (fn_number_of T h1) hr (da_cons (de_ixL (de_var 0) de_int rfl) (da_cons (de_var 1) (da_cons (de_var 2) (da_cons (de_var 3) da_nil))))) (da_cons (de_call (fn_number_of T h3) hr (da_cons (de_ixL (de_var 0) de_int rfl) (da_cons (de_var 1) (da_cons (de_var 2) (da_cons (de_var 3) da_nil))))) da_nil)) ?_ sc_holds.nd
    have cq : ∀ {X : Cx} {W : Ow} {t : Str} {c : Nat}, t = sgT c → c < 4 → OpD X W (compareOp .Eq) (is (.str (sgT q))) (is (.str t)) (is (.bl (decide (q = c)))) := fun {X W t c} e hc => by
      subst e
      rw [← sg_ne q h2 c hc]
      exact od_eqS
    have e0 : ("<" : Str) = sgT 0 := by decide +kernel
    have e1 : ("<=" : Str) = sgT 1 := by decide +kernel
    have e2 : ("==" : Str) = sgT 2 := by decide +kernel
    -- if guard[1] == '<':
    refine dss_when (dt_cmp (cq e0 (by decide)) (de_ixL (de_var 0) de_int rfl) de_str) (fun hc => ?_) (fun hc => ?_)
    · have := of_decide_eq_true hc
      subst this
      exact dss_ret (de_cmp od_lt (de_var 4) (de_var 5)) rt_same
    -- if guard[1] == '<=':
    refine dss_when (dt_cmp (cq e1 (by decide)) (de_ixL (de_var 0) de_int rfl) de_str) (fun hc2 => ?_) (fun hc2 => ?_)
    · have := of_decide_eq_true hc2
      subst this
      exact dss_ret (de_cmp od_le (de_var 4) (de_var 5)) rt_same
    -- return (one == other) == (guard[1] == '==')
    have e : Gd3.v (some (a, q, b)) n i j = (decide (nmV a n i j = nmV b n i j) == decide (q = 2)) := by
      have n0 := of_decide_eq_false hc
      have n1 := of_decide_eq_false hc2
      rcases (show q = 2 ∨ q = 3 by omega) with rfl | rfl
      · show decide _ = _
        simp
      · show (!decide _) = _
        simp
    rw [e]
    exact dss_ret (de_cmp od_eqB (de_cmp od_eqI (de_var 4) (de_var 5)) (de_cmp (cq e2 (by decide)) (de_ixL (de_var 0) de_int rfl) de_str)) rt_same
theorem in_nm : ∀ c, c < 4 → inV (.str (nmT c)) (nmTs.map V.str) = true := by decide +kernel
theorem in_sg : ∀ c, c < 4 → inV (.str (sgT c)) (sgTs.map V.str) = true := by decide +kernel
theorem in_pl : ∀ c, c < 8 → inV (.str (plT c)) (plTs.map V.str) = true := by decide +kernel
theorem flat_strs : ∀ xs : List Str, (xs.map V.str).all flatV = true
  | [] => rfl
  | x :: xs => by rw [List.map_cons, List.all_cons, flat_strs xs]; rfl
theorem sc_is_guard : FnScope ["words"] ["words"] (defScope (top 23)) := ⟨rfl, rfl, rfl, by decide +kernel, rfl, by decide +kernel, by decide +kernel⟩
theorem fn_is_guard (T : Tx K w mg A) {a q b : Nat} (h : Gd3.ok (some (a, q, b))) : FnG P w K mg base "is_guard" 1 [rLi K [is (.str (nmT a)), is (.str (sgT q)), is (.str (nmT b))]] [] [] (is (.bl true)) :=
  fng_of T.d_is_guard sc_is_guard rfl (fun _ _ _ _ _ _ us hl => match us, hl with | [_], _ => rfl) fun f cdv A outer s H E hr => by
  obtain ⟨h1, h2, h3, h4⟩ := h
  have i1 : ∀ {X : Cx} {W : Ow} {c : Nat}, c < 4 → OpD X W (compareOp .In) (is (.str (nmT c))) (rTu X.K ((nmTs.map V.str).map is)) (is (.bl true)) := fun {X W c} hc => by
    have z := od_inFT (X := X) (W := W) (x := .str (nmT c)) (xs := nmTs.map V.str) rfl (flat_strs _)
    rw [in_nm c hc] at z
    exact z
  have i2 : ∀ {X : Cx} {W : Ow}, OpD X W (compareOp .NotIn) (is (.str (sgT q))) (rTu X.K ((sgTs.map V.str).map is)) (is (.bl false)) := fun {X W} => by
    have z := od_notInFT (X := X) (W := W) (x := .str (sgT q)) (xs := sgTs.map V.str) rfl (flat_strs _)
    rw [in_sg q h2] at z
    exact z
  have i3 : ∀ {X : Cx} {W : Ow}, OpD X W (compareOp .NotEq) (is (.str (nmT a))) (is (.str (nmT b))) (is (.bl true)) := fun {X W} => by
    have z := od_neS (X := X) (W := W) (i := nmT a) (j := nmT b)
    rw [nm_ne a h1 b h3, decide_eq_false h4] at z
    exact z
  -- if len(words) != 3 or words[1] not in SIGNS:
  refine dss_ifF (dt_of (dw_or (k := false) (l := false) (dt_cmp od_neI (de_bi ca_lenL T.n_len boot_len (da_cons (de_var 0) da_nil)) de_int) fun _ => (dw_or1 (dt_cmp i2 (de_ixL (de_var 0) de_int rfl) (de_gt T.g_SIGNS))))) ?_
  -- return words[0] in NUMBERS and words[2] in NUMBERS and (words[0] != words[2])
  exact dss_ret (de_and (k := true) (l := true) (de_cmp (i1 h1) (de_ixL (de_var 0) de_int rfl) (de_gt T.g_NUMBERS)) fun _ => (de_and (k := true) (l := true) (de_cmp (i1 h3) (de_ixL (de_var 0) de_int rfl) (de_gt T.g_NUMBERS)) fun _ => (de_one (de_cmp i3 (de_ixL (de_var 0) de_int rfl) (de_ixL (de_var 0) de_int rfl))))) rt_same
end
end
end SQ
end
section
set_option maxHeartbeats 400000
namespace SQ
open PySem PySem.Spec PyProof.Rows L2 StX ClX
noncomputable section

/-! ### calls of a def that a name holds -/
structure FnV (prog : Program) (w : World) (K : PySem.W.Frag) (mg : Str → Option Value) (base : Heap) (f : Addr) (L : Nat) (Ps : List VP) (W W' : Ow) (P : VP) : Prop where
  kp : PySem.W.keepIn K (.ref f) = true
  fr : FnR prog w K mg base CX0 L f (SpF Ps W W' P)
theorem FnG.v {prog : Program} {w : World} {K : PySem.W.Frag} {mg : Str → Option Value} {base : Heap} {x : Str} {L : Nat} {Ps : List VP} {W W' : Ow} {P : VP} {f : Addr} (h : FnG prog w K mg base x L Ps W W' P) (hf : mg x = some (.ref f)) : FnV prog w K mg base f L Ps W W' P := by
  obtain ⟨g, h1, h2, h3⟩ := h.ex
  rw [hf] at h1
  cases h1
  exact ⟨h2, h3⟩
section
variable {X : Cx} {G : Gm} {W : Ow} {e : Expr} {es : List Expr} {P : VP} {Ps : List VP} {pos p : Pos} {k L : Nat} {f : Addr} {x : Str}
theorem de_callV (F : FnV X.prog X.w X.K X.mg X.base f L Ps [] [] P) (hr : Room k X.A) (hc : DE X G W (.Name x p) (is (.ref f))) (ha : DA X G W (e :: es) Ps) (hl : L ≤ k := by decide)
    (he : starEach (e :: es) X.env = (false, eval e X.env) :: starEach es X.env := by rfl) (hpl : (backTo pos (starEach es X.env)).any (·.1) = false := by rfl) : DE X G W (.Call (.Name x p) (e :: es) [] pos) P := by
  refine ⟨fun pins s σ H Q I h => ?_⟩
  obtain ⟨c, S, kq⟩ := h
  refine wpAny_Call_Name_kw (thn (hc.run pins s σ H (fun v H1 => v = .ref f ∧ StOk c G W σ H1 ∧ Same (vis c W H) (vis c W H1)) I ⟨c, S, fun v H1 S1 e1 b1 => ⟨b1.eq, S1, e1⟩⟩) fun u s0 ⟨v, H0, I0, r0, ev, S0, e0⟩ => ?_)
  subst ev
  cases r0
  refine PySem.W.callWith_K (h₀ := X.base) I0.ok.mod.kin F.kp (thn (ha.run pos pins s0 σ H0 (fun vs H1 => StOk c G W σ H1 ∧ Same (vis c W H0) (vis c W H1) ∧ Paired (fun P v => Bx P v (vis c W H1)) Ps vs) I0 ⟨c, S0, fun vs H1 S1 e1 b1 => ⟨S1, e1, b1⟩⟩) fun us s1 ⟨vs, H1, I1, r, S1, e1, b1⟩ => ⟨I1.kIn, ?_⟩) he hpl
  exact wpAny_call (run_fnR (F.fr.mono hl) hr pass0 I1 r (spf_use0 S1 b1 fun v H' S' e2 b2 => kq v H' S' ((e0.trans e1).trans e2) b2))
end

/-! ### contents by cells -/
def ck (c : Cell) : List Key := [.inl c.1, .inl c.2]
theorem ck_inj {a b : Cell} (h : ck a = ck b) : a = b := by
  obtain ⟨a1, a2⟩ := a
  obtain ⟨b1, b2⟩ := b
  simp [ck] at h
  rw [h.1, h.2]
theorem ck_nodup {cs : List Cell} (h : cs.Nodup) : (cs.map ck).Nodup := List.pairwise_map.mpr (List.Pairwise.imp (fun n e => n (ck_inj e)) h)
def dz (cs : List Cell) (vs : List Int) : List (List Key × VP) := (cs.map ck).zip (vs.map fun v => is (.int v))
theorem lk_dz : ∀ {cs : List Cell} {vs : List Int} {p : Nat} {c : Cell}, cs.Nodup → cs.length = vs.length → cs[p]? = some c → lkP (dz cs vs) (ck c) = some (is (.int (vs.getD p 0)))
  | [], _, p, c, _, _, h => by simp at h
  | a :: cs, [], _, _, _, h, _ => by simp at h
  | a :: cs, v :: vs, 0, c, _, _, h => by
    simp at h
    subst h
    simp [dz, lkP]
  | a :: cs, v :: vs, p + 1, c, nd, hl, h => by
    have hc : cs[p]? = some c := by simpa using h
    have ne : ¬ ck a = ck c := fun e => (List.nodup_cons.mp nd).1 (by rw [ck_inj e]; exact List.mem_of_getElem? hc)
    have ih := lk_dz (vs := vs) (List.nodup_cons.mp nd).2 (by simpa using hl) hc
    have e : lkP (dz (a :: cs) (v :: vs)) (ck c) = lkP (dz cs vs) (ck c) := by
      show lkP ((ck a, is (.int v)) :: dz cs vs) (ck c) = _
      simp [lkP, List.find?_cons, ne]
    rw [e, ih]
    rfl
theorem dz_any : ∀ {cs : List Cell} {vs : List Int} {c : Cell}, cs.length = vs.length → c ∈ cs → ((dz cs vs).any fun kv => decide (kv.1 = ck c)) = true
  | [], _, c, _, h => by simp at h
  | a :: cs, [], _, h, _ => by simp at h
  | a :: cs, v :: vs, c, hl, h => by
    show (((ck a, is (.int v)) :: dz cs vs).any fun kv => decide (kv.1 = ck c)) = true
    rw [List.any_cons]
    rcases List.mem_cons.mp h with rfl | h
    · simp
    · rw [dz_any (by simpa using hl) h, Bool.or_true]
theorem dz_map : ∀ {cs : List Cell} {vs : List Int} {p : Nat} {c : Cell} {x : Int}, cs.Nodup → cs.length = vs.length → cs[p]? = some c → (dz cs vs).map (fun kv => if kv.1 = ck c then (kv.1, is (.int x)) else kv) = dz cs (vs.set p x)
  | [], _, p, c, _, _, _, h => by simp at h
  | a :: cs, [], _, _, _, _, h, _ => by simp at h
  | a :: cs, v :: vs, 0, c, x, nd, hl, h => by
    simp at h
    subst h
    have no : ∀ {cs : List Cell} {vs : List Int}, a ∉ cs → (dz cs vs).map (fun kv => if kv.1 = ck a then (kv.1, is (.int x)) else kv) = dz cs vs := by
      intro cs
      induction cs with
      | nil => intro vs _; rfl
      | cons b cs ih =>
        intro vs hn
        cases vs with
        | nil => rfl
        | cons u vs =>
          have ne : ¬ ck b = ck a := fun e => hn (by rw [ck_inj e]; exact List.mem_cons_self)
          show (if ck b = ck a then (ck b, is (.int x)) else (ck b, is (.int u))) :: (dz cs vs).map _ = (ck b, is (.int u)) :: dz cs vs
          rw [if_neg ne, ih fun z => hn (List.mem_cons_of_mem _ z)]
    show (if ck a = ck a then (ck a, is (.int x)) else (ck a, is (.int v))) :: (dz cs vs).map _ = (ck a, is (.int x)) :: dz cs vs
    rw [if_pos rfl, no (List.nodup_cons.mp nd).1]
  | a :: cs, v :: vs, p + 1, c, x, nd, hl, h => by
    have hc : cs[p]? = some c := by simpa using h
    have ne : ¬ ck a = ck c := fun e => (List.nodup_cons.mp nd).1 (by rw [ck_inj e]; exact List.mem_of_getElem? hc)
    have ih := dz_map (vs := vs) (x := x) (List.nodup_cons.mp nd).2 (by simpa using hl) hc
    show (if ck a = ck c then (ck a, is (.int x)) else (ck a, is (.int v))) :: (dz cs vs).map _ = (ck a, is (.int v)) :: dz cs (vs.set p x)
    rw [if_neg ne, ih]
theorem put_dz {cs : List Cell} {vs : List Int} {p : Nat} {c : Cell} {x : Int} (nd : cs.Nodup) (hl : cs.length = vs.length) (h : cs[p]? = some c) : putP (dz cs vs) (ck c) (is (.int x)) = dz cs (vs.set p x) := by
  unfold putP
  rw [if_pos (dz_any hl (List.mem_of_getElem? h)), dz_map nd hl h]
theorem dz_len {cs : List Cell} {vs : List Int} : (dz cs vs).length ≤ cs.length := by
  unfold dz
  rw [List.length_zip, List.length_map]
  omega

/-! ### what a deed does to the values, by their places -/
def ents {α : Type} (d : α) (ps : List Nat) (vs : List α) : List α := ps.map fun p => vs.getD p d
def sets {α : Type} (qs : List (Nat × α)) (vs : List α) : List α := qs.foldl (fun vs q => vs.set q.1 q.2) vs
def shf {α : Type} (d : α) (ps : List Nat) (es vs : List α) : List α := (sets ((ps.drop 1).zip es) vs).set (ps.headD 0) (es.getLastD d)
def stp {α : Type} (mt jn : α → α → α) (d : α) (wd : Nat) (ps : List Nat) (vs : List α) : List α :=
  if wd = 1 then vs.set (ps.getD 1 0) ((ents d ps vs).getD 0 d)
  else if wd = 2 then (vs.set (ps.getD 0 0) (mt ((ents d ps vs).getD 0 d) ((ents d ps vs).getD 1 d))).set (ps.getD 1 0) (jn ((ents d ps vs).getD 0 d) ((ents d ps vs).getD 1 d))
  else shf d ps (ents d ps vs) vs
theorem sets_len {α : Type} : ∀ (qs : List (Nat × α)) (vs : List α), (sets qs vs).length = vs.length
  | [], _ => rfl
  | q :: qs, vs => by
    show (sets qs (vs.set q.1 q.2)).length = _
    rw [sets_len qs, List.length_set]
theorem stp_len {α : Type} (mt jn : α → α → α) (d : α) (wd : Nat) (ps : List Nat) (vs : List α) : (stp mt jn d wd ps vs).length = vs.length := by
  unfold stp shf
  split
  · rw [List.length_set]
  · split
    · rw [List.length_set, List.length_set]
    · rw [List.length_set, sets_len]
structure LD where
  wd : Nat
  sp : List Nat
  gd : Gd3
structure LD.ok (D : LD) : Prop where
  w4 : D.wd < 4
  s8 : ∀ s ∈ D.sp, s < 8
  nd : D.sp.Nodup
  l2 : D.wd < 3 → D.sp.length = 2
  l3 : D.wd = 3 → 3 ≤ D.sp.length ∧ D.sp.length ≤ 8
  g : D.gd.ok
theorem LD.ok.le2 {D : LD} (h : D.ok) : 2 ≤ D.sp.length ∧ D.sp.length ≤ 8 := by
  have := h.w4
  by_cases h3 : D.wd < 3
  · have := h.l2 h3
    omega
  · have := h.l3 (by omega)
    omega
def rD (K : PySem.W.Frag) (A : Ad) (D : LD) : VP := rIn A.deed ["word", "spots", "guard"] [is (.str (wdT D.wd)), rLi K (D.sp.map fun s => is (.str (plT s))), rLi K (D.gd.w.map fun t => is (.str t))]
def im (n i j : Int) (s : Nat) : Cell := (img n i j).getD s (0, 0)
def posn (cs : List Cell) (n i j : Int) (s : Nat) : Nat := cs.idxOf (im n i j s)
theorem posn_at {cs : List Cell} {n i j : Int} {s : Nat} (h : im n i j s ∈ cs) : cs[posn cs n i j s]? = some (im n i j s) := by
  unfold posn
  have hl := List.idxOf_lt_length_of_mem h
  rw [List.getElem?_eq_getElem hl, List.getElem_idxOf]
/-- the values behind the deed at (i, j) -/
def ddo {α : Type} (mt jn : α → α → α) (d : α) (D : LD) (cs : List Cell) (n i j : Int) (vs : List α) : List α := if D.gd.v n i j = true then stp mt jn d D.wd (D.sp.map (posn cs n i j)) vs else vs
theorem wd_eq : ∀ b, b < 4 → ∀ c, c < 4 → decide (wdT b = wdT c) = decide (b = c) := by decide +kernel

section
variable {P : Program} {w : World} {K : PySem.W.Frag} {mg : Str → Option Value} {base : Heap} {A : Ad}
theorem putO_one {q : Addr} {C C' : OC} : putO [(q, C)] q C' = [(q, C')] := by
  unfold putO
  rw [if_pos rfl]
theorem rg_at {lo : Int} {n i : Nat} {P : VP} (h : (rgV lo n)[i]? = some P) : P = is (.int (lo + (i : Nat))) ∧ i < n := by
  unfold rgV at h
  rw [List.getElem?_map] at h
  have hi : i < n := by
    by_cases z : i < n
    · exact z
    · rw [List.getElem?_eq_none (by rw [List.length_range]; omega)] at h
      cases h
  rw [List.getElem?_range hi] at h
  cases h
  exact ⟨rfl, hi⟩
theorem rg_len {lo : Int} {n : Nat} : (rgV lo n).length = n := by
  unfold rgV
  rw [List.length_map, List.length_range]
theorem dss_dputO {X : Cx} {G : Gm} {e a b : Expr} {pos pos' : Pos} {k : Nat} {D : DEn} {rest : List Stmt} {kvs : List (List Key × VP)} {ky : List Key} {q : Addr} {P : VP} (hr : Room k X.A) (ha : DE X G [(q, oDi kvs)] a (is (.ref q))) (hb : DE X G [(q, oDi kvs)] b (rTr (ky.map kV))) (he : DE X G [(q, oDi kvs)] e P) (hl : kvs.length ≤ 100000) (h : DSs X G [(q, oDi (putP kvs ky P))] rest D)
    (hs : swapsWith e (some (.Subscript a b pos')) pos.line X.env = pure false := by rfl) : DSs X G [(q, oDi kvs)] (.Assign [.Subscript a b pos'] e pos :: rest) D :=
  dss_dput hr List.mem_cons_self ha hb he hl (by rw [putO_one]; exact h) hs
theorem sc_do_deed : FnScope ["deed", "size", "i", "j", "content", "meet", "join", "cells", "spot", "entries", "cell", "k"] ["deed", "size", "i", "j", "content", "meet", "join"] (defScope (top 28)) := ⟨rfl, rfl, rfl, by decide +kernel, rfl, by decide +kernel, by decide +kernel⟩
theorem fn_do_deed (T : Tx K w mg A) {D : LD} {n i j : Int} {cs : List Cell} {vs : List Int} {q fm fj : Addr} {mt jn : Int → Int → Int} (hD : D.ok) (nd : cs.Nodup) (hl : cs.length = vs.length) (hz : cs.length ≤ 8) (him : ∀ s, s < 8 → im n i j s ∈ cs)
    (hM : ∀ x y : Int, FnV P w K mg base fm 1 [is (.int x), is (.int y)] [] [] (is (.int (mt x y)))) (hJ : ∀ x y : Int, FnV P w K mg base fj 1 [is (.int x), is (.int y)] [] [] (is (.int (jn x y)))) :
    FnG P w K mg base "do_deed" 3 [rD K A D, is (.int n), is (.int i), is (.int j), is (.ref q), is (.ref fm), is (.ref fj)] [(q, oDi (dz cs vs))] [(q, oDi (dz cs (ddo mt jn 0 D cs n i j vs)))] (is .non) :=
  fng_of T.d_do_deed sc_do_deed rfl (fun _ _ _ _ _ _ us hl => match us, hl with | [_, _, _, _, _, _, _], _ => rfl) fun f cdv Ar outer s H E hr => by
  have hz2 : (dz cs vs).length ≤ 100000 := Nat.le_trans dz_len (by omega)
  have hzz : ∀ vs' : List Int, (dz cs vs').length ≤ 100000 := fun vs' => Nat.le_trans dz_len (by omega)
  obtain ⟨l2, l8⟩ := hD.le2
  -- if not holds(deed.guard, size, i, j):
  refine dss_when (k := !(D.gd.v n i j)) (dt_not (dt_val (de_call (fn_holds T hD.g) hr (da_cons (de_fld 2 T.c_Deed T.na_Deed_guard (de_var 0)) (da_cons (de_var 1) (da_cons (de_var 2) (da_cons (de_var 3) da_nil))))))) (fun hc => ?_) (fun hc => ?_)
  · have e : ddo mt jn 0 D cs n i j vs = vs := if_neg (by simpa using hc)
    rw [e]
    exact dss_retN rt_same
  have e : ddo mt jn 0 D cs n i j vs = stp mt jn 0 D.wd (D.sp.map (posn cs n i j)) vs := if_pos (by simpa using hc)
  rw [e]
  clear e hc
  -- cells = [place_cell(spot, size, i, j) for spot in deed.spots]
  refine dss_setLcA 7 (own := [("spot", 8)]) (js := [8]) (xs := D.sp) (r := fun s => rC (im n i j s)) (up := fun s G => G.set 8 (some (is (.str (plT s))))) sc_do_deed.nd (di_list (de_fld 1 T.c_Deed T.na_Deed_spots (de_var 0))) (blk_of (by kernel_rfl)) (by simp) (Nat.le_trans l8 (by decide)) (fun s H C cl fp x hx => (dg_name 8 sc_do_deed.nd)) (fun s H C cl fp x hx => de_call (fn_place_cell T (hD.s8 x hx)) hr (da_cons (de_var 8) (da_cons (de_var 1) (da_cons (de_var 2) (da_cons (de_var 3) da_nil))))) ?_
  -- entries = [content[cell] for cell in cells]
  refine dss_setLcA 9 (own := [("cell", 10)]) (js := [10]) (xs := D.sp) (p := fun s => rC (im n i j s)) (r := fun s => is (.int (vs.getD (posn cs n i j s) 0))) (up := fun s G => G.set 10 (some (rC (im n i j s)))) sc_do_deed.nd (di_list (de_var 7)) (blk_of (by kernel_rfl)) (by simp) (Nat.le_trans l8 (by decide)) (fun s H C cl fp x hx => (dg_name 10 sc_do_deed.nd)) (fun s H C cl fp x hx => de_dgetO (ky := ck (im n i j x)) hr List.mem_cons_self (de_var 4) (de_var 10) (lk_dz nd hl (posn_at (him x (hD.s8 x hx))))) ?_
  have cat : ∀ {m : Nat} {s : Nat}, D.sp[m]? = some s → (D.sp.map fun s => rC (im n i j s))[m]? = some (rC (im n i j s)) := fun h => by rw [List.getElem?_map, h]; rfl
  have eat : ∀ {m : Nat} {s : Nat}, D.sp[m]? = some s → (D.sp.map fun s => is (.int (vs.getD (posn cs n i j s) 0)))[m]? = some (is (.int (vs.getD (posn cs n i j s) 0))) := fun h => by rw [List.getElem?_map, h]; rfl
  have at_ : ∀ {m : Nat}, m < D.sp.length → D.sp[m]? = some D.sp[m]! := fun {m} h => by simp [h]
  have pt : ∀ {vs' : List Int} {m : Nat} {x : Int}, cs.length = vs'.length → m < D.sp.length → putP (dz cs vs') (ck (im n i j D.sp[m]!)) (is (.int x)) = dz cs (vs'.set (posn cs n i j D.sp[m]!) x) := fun {vs' m x} h1 h2 => put_dz nd h1 (posn_at (him _ (hD.s8 _ (by simp [h2]))))
  have pg : ∀ {m : Nat}, m < D.sp.length → (D.sp.map (posn cs n i j)).getD m 0 = posn cs n i j D.sp[m]! := fun {m} h => by simp [h]
  have eg : ∀ {m : Nat}, m < D.sp.length → (ents 0 (D.sp.map (posn cs n i j)) vs).getD m 0 = vs.getD (posn cs n i j D.sp[m]!) 0 := fun {m} h => by simp [ents, h]
  have wq : ∀ {X : Cx} {W : Ow} {t : Str} {c : Nat}, t = wdT c → c < 4 → OpD X W (compareOp .Eq) (is (.str (wdT D.wd))) (is (.str t)) (is (.bl (decide (D.wd = c)))) := fun {X W t c} e hc => by
    subst e
    rw [← wd_eq _ hD.w4 c hc]
    exact od_eqS
  have e1 : ("copy" : Str) = wdT 1 := by decide +kernel
  have e2 : ("order" : Str) = wdT 2 := by decide +kernel
  -- if deed.word == 'copy':
  refine dss_if (dt_cmp (wq e1 (by decide)) (de_fld 0 T.c_Deed T.na_Deed_word (de_var 0)) de_str) (fun hc => ?_) (fun hc => ?_)
  · -- content[cells[1]] = entries[0]
    refine dss_dputO (ky := ck (im n i j D.sp[1]!)) hr (de_var 4) (de_ixL (de_var 7) de_int (atI_k 1 (cat (at_ (by omega))))) (de_ixL (de_var 9) de_int (atI_k 0 (eat (at_ (by omega))))) hz2 (dss_nil (dss_nil ?_))
    have e : stp mt jn 0 D.wd (D.sp.map (posn cs n i j)) vs = vs.set (posn cs n i j D.sp[1]!) (vs.getD (posn cs n i j D.sp[0]!) 0) := by
      unfold stp
      rw [if_pos (of_decide_eq_true hc), pg (by omega), eg (by omega)]
    rw [e, pt hl (by omega)]
    exact nx_none
  -- if deed.word == 'order':
  refine dss_if (dt_cmp (wq e2 (by decide)) (de_fld 0 T.c_Deed T.na_Deed_word (de_var 0)) de_str) (fun hc2 => ?_) (fun hc2 => ?_)
  · -- content[cells[0]] = meet(entries[0], entries[1])
    refine dss_dputO (ky := ck (im n i j D.sp[0]!)) hr (de_var 4) (de_ixL (de_var 7) de_int (atI_k 0 (cat (at_ (by omega))))) (de_callV (hM _ _) hr (de_var 5) (da_cons (de_ixL (de_var 9) de_int (atI_k 0 (eat (at_ (by omega))))) (da_cons (de_ixL (de_var 9) de_int (atI_k 1 (eat (at_ (by omega))))) da_nil))) hz2 ?_
    rw [pt hl (by omega)]
    -- content[cells[1]] = join(entries[0], entries[1])
    refine dss_dputO (ky := ck (im n i j D.sp[1]!)) hr (de_var 4) (de_ixL (de_var 7) de_int (atI_k 1 (cat (at_ (by omega))))) (de_callV (hJ _ _) hr (de_var 6) (da_cons (de_ixL (de_var 9) de_int (atI_k 0 (eat (at_ (by omega))))) (da_cons (de_ixL (de_var 9) de_int (atI_k 1 (eat (at_ (by omega))))) da_nil))) (hzz _) (dss_nil (dss_nil (dss_nil ?_)))
    have e : stp mt jn 0 D.wd (D.sp.map (posn cs n i j)) vs = (vs.set (posn cs n i j D.sp[0]!) (mt (vs.getD (posn cs n i j D.sp[0]!) 0) (vs.getD (posn cs n i j D.sp[1]!) 0))).set (posn cs n i j D.sp[1]!) (jn (vs.getD (posn cs n i j D.sp[0]!) 0) (vs.getD (posn cs n i j D.sp[1]!) 0)) := by
      unfold stp
      rw [if_neg (of_decide_eq_false hc), if_pos (of_decide_eq_true hc2), pg (by omega), pg (by omega), eg (by omega), eg (by omega)]
    rw [e, pt (by rw [List.length_set]; exact hl) (by omega)]
    exact nx_none
  -- for k in range(1, len(cells)): content[cells[k]] = entries[k - 1]
  have hst : stp mt jn 0 D.wd (D.sp.map (posn cs n i j)) vs = shf 0 (D.sp.map (posn cs n i j)) (ents 0 (D.sp.map (posn cs n i j)) vs) vs := by
    unfold stp
    rw [if_neg (of_decide_eq_false hc), if_neg (of_decide_eq_false hc2)]
  rw [hst]
  generalize hqs : ((D.sp.map (posn cs n i j)).drop 1).zip (ents 0 (D.sp.map (posn cs n i j)) vs) = qs
  have qlen : qs.length = D.sp.length - 1 := by
    rw [← hqs]
    simp [ents]
  have qat : ∀ m, m + 1 < D.sp.length → qs[m]? = some (posn cs n i j D.sp[m + 1]!, vs.getD (posn cs n i j D.sp[m]!) 0) := fun m h => by
    rw [← hqs, List.getElem?_zip_eq_some]
    have h2 : m < D.sp.length := by omega
    constructor
    · rw [List.getElem?_drop, List.getElem?_map, Nat.add_comm 1 m]
      simp [h]
    · unfold ents
      rw [List.getElem?_map, List.getElem?_map]
      simp [h2]
  have slen : ∀ m, (sets (qs.take m) vs).length = vs.length := fun m => sets_len _ _
  refine dss_for (Iv := fun m G W => (∃ o, G = [some (rD K A D), some (is (.int n)), some (is (.int i)), some (is (.int j)), some (is (.ref q)), some (is (.ref fm)), some (is (.ref fj)), some (rLi K (D.sp.map fun s => rC (im n i j s))), none, some (rLi K (D.sp.map fun s => is (.int (vs.getD (posn cs n i j s) 0)))), none, o]) ∧ W = [(q, oDi (dz cs (sets (qs.take m) vs)))])
    (di_range2 T.n_range (da_cons de_int (da_cons (de_bi ca_lenL T.n_len boot_len (da_cons (de_var 7) da_nil)) da_nil)) ?_) (fun P hP => (dg_name 11 sc_do_deed.nd)) ?_ (fun m P G1 W1 hP hI => ?_) (fun G1 W1 hI => ?_)
  · rw [List.length_map]
    omega
  · exact ⟨⟨none, rfl⟩, rfl⟩
  · obtain ⟨⟨o, rfl⟩, rfl⟩ := hI
    obtain ⟨rfl, hm⟩ := rg_at hP
    rw [List.length_map] at hm
    have hm1 : m + 1 < D.sp.length := by omega
    refine dss_dputO (ky := ck (im n i j D.sp[m + 1]!)) hr (de_var 4) (de_ixL (de_var 7) (de_var 11) (atI_k (m + 1) (cat (at_ hm1)) (by omega))) (de_ixL (de_var 9) (de_bin od_sub (de_var 11) de_int) (atI_k m (eat (at_ (by omega))) (by omega))) (hzz _) (dss_nil ?_)
    rw [pt (by rw [slen]; exact hl) hm1]
    refine ⟨⟨_, rfl⟩, ?_⟩
    have e : sets (qs.take (m + 1)) vs = (sets (qs.take m) vs).set (posn cs n i j D.sp[m + 1]!) (vs.getD (posn cs n i j D.sp[m]!) 0) := by
      unfold sets
      rw [List.take_succ, qat m hm1, List.foldl_append]
      rfl
    rw [e]
  · obtain ⟨⟨o, rfl⟩, rfl⟩ := hI
    have e : (rgV 1 ((((D.sp.map fun s => rC (im n i j s)).length : Int) - 1).toNat)).length = D.sp.length - 1 := by
      rw [rg_len, List.length_map]
      omega
    -- content[cells[0]] = entries[-1]
    refine dss_dputO (ky := ck (im n i j D.sp[0]!)) hr (de_var 4) (de_ixL (de_var 7) de_int (atI_k 0 (cat (at_ (by omega))))) (de_ixL (de_var 9) (de_neg de_int) (atI_neg (D.sp.length - 1) (eat (at_ (by omega))) (by rw [List.length_map]; omega) (by decide))) (hzz _) (dss_nil (dss_nil (dss_nil ?_)))
    rw [pt (by rw [slen]; exact hl) (by omega), e, ← qlen, List.take_length]
    have e2 : shf 0 (D.sp.map (posn cs n i j)) (ents 0 (D.sp.map (posn cs n i j)) vs) vs = (sets qs vs).set (posn cs n i j D.sp[0]!) (vs.getD (posn cs n i j D.sp[D.sp.length - 1]!) 0) := by
      unfold shf
      rw [hqs]
      have h0 : (D.sp.map (posn cs n i j)).headD 0 = posn cs n i j D.sp[0]! := by
        have := pg (m := 0) (by omega)
        rw [← this]
        cases D.sp with
        | nil => rfl
        | cons a b => rfl
      have h1 : (ents 0 (D.sp.map (posn cs n i j)) vs).getLastD 0 = vs.getD (posn cs n i j D.sp[D.sp.length - 1]!) 0 := by
        rw [← eg (m := D.sp.length - 1) (by omega)]
        have lz : (ents 0 (D.sp.map (posn cs n i j)) vs).length = D.sp.length := by simp [ents]
        rw [List.getLastD_eq_getLast?, List.getLast?_eq_getElem?, lz, List.getD_eq_getElem?_getD]
      rw [h0, h1]
    rw [e2, qlen]
    exact nx_none
end
end
end SQ
end
section
set_option maxHeartbeats 400000
namespace SQ
open PySem PySem.Spec PyProof.Rows L2 StX ClX
noncomputable section
section
variable {P : Program} {w : World} {K : PySem.W.Frag} {mg : Str → Option Value} {base : Heap} {A : Ad}
theorem sc_Deed : FnScope ["self", "word", "spots", "guard"] ["self", "word", "spots", "guard"] (defScope (inClass (top 22) 0)) := ⟨rfl, rfl, rfl, by decide +kernel, rfl, by decide +kernel, by decide +kernel⟩
theorem ini_Deed (T : Tx K w mg A) {P1 P2 P3 : VP} : IniG P w K mg base A.deed 1 [P1, P2, P3] ["word", "spots", "guard"] [P1, P2, P3] := by
  obtain ⟨f, fd, M, F⟩ := T.i_Deed
  refine ⟨f, M, fun x => fnr_of F sc_Deed rfl (fun _ _ _ _ _ _ us hl => match us, hl with | [_, _, _, _], _ => rfl) fun cdv Ar outer s H E hr => ?_⟩
  refine dss_fldO T.c_Deed T.na_Deed_word List.mem_cons_self (de_var 0) (de_var 1) (by decide +kernel) ?_
  rw [putO_one]
  refine dss_fldO T.c_Deed T.na_Deed_spots List.mem_cons_self (de_var 0) (de_var 2) (by decide +kernel) ?_
  rw [putO_one]
  refine dss_fldO T.c_Deed T.na_Deed_guard List.mem_cons_self (de_var 0) (de_var 3) (by decide +kernel) ?_
  rw [putO_one]
  exact dss_nil nx_none
end
theorem cutP_to {Ps : List VP} {k : Nat} {i : Int} (h : i = (k : Nat)) : cutP Ps none (some i) = Ps.take k := by
  subst h
  unfold cutP
  rw [HT.sIx_none, HT.sIx_nat, List.drop_zero, Nat.sub_zero]
  rcases Nat.le_total k Ps.length with z | z
  · rw [Nat.min_eq_left z]
  · rw [Nat.min_eq_right z, List.take_length, List.take_of_length_le z]
theorem cutP_from {Ps : List VP} {k : Nat} {i : Int} (h : i = (k : Nat)) : cutP Ps (some i) none = Ps.drop k := by
  subst h
  unfold cutP
  rw [HT.sIx_none, HT.sIx_nat]
  rcases Nat.le_total k Ps.length with z | z
  · rw [Nat.min_eq_left z, List.take_of_length_le (by rw [List.length_drop]; omega)]
  · rw [Nat.min_eq_right z, Nat.sub_self, List.take_zero, List.drop_of_length_le z]
def gw : Gd3 → List Str
  | none => []
  | some g => "if" :: Gd3.w (some g)
def LD.ww (D : LD) : List Str := wdT D.wd :: D.sp.map plT
def LD.wl (D : LD) : List Str := D.ww ++ gw D.gd
def LD.t (D : LD) : Str := Str.join " " D.wl
theorem wd_free : ∀ c, c < 4 → 32 ∉ (wdT c).cps.toList ∧ (wdT c).length ≤ 10 ∧ ¬ wdT c = "if" := by decide +kernel
theorem pl_free : ∀ c, c < 8 → 32 ∉ (plT c).cps.toList ∧ (plT c).length ≤ 10 ∧ ¬ plT c = "if" := by decide +kernel
theorem nm_free : ∀ c, c < 4 → 32 ∉ (nmT c).cps.toList ∧ (nmT c).length ≤ 10 := by decide +kernel
theorem sg_free : ∀ c, c < 4 → 32 ∉ (sgT c).cps.toList ∧ (sgT c).length ≤ 10 := by decide +kernel
theorem if_free : 32 ∉ ("if" : Str).cps.toList ∧ ("if" : Str).length ≤ 10 := by decide +kernel
theorem LD.wl_all {D : LD} (h : D.ok) : ∀ p ∈ D.wl, 32 ∉ p.cps.toList ∧ p.length ≤ 10 := by
  intro p hp
  rcases List.mem_append.mp hp with hp | hp
  · rcases List.mem_cons.mp hp with rfl | hp
    · exact ⟨(wd_free _ h.w4).1, (wd_free _ h.w4).2.1⟩
    · obtain ⟨s, hs, rfl⟩ := List.mem_map.mp hp
      exact ⟨(pl_free _ (h.s8 s hs)).1, (pl_free _ (h.s8 s hs)).2.1⟩
  · have hg := h.g
    cases e : D.gd with
    | none => rw [e] at hp; exact absurd hp (by simp [gw])
    | some g =>
      obtain ⟨a, q, b⟩ := g
      rw [e] at hp hg
      obtain ⟨h1, h2, h3, _⟩ := hg
      have hp : p ∈ [("if" : Str), nmT a, sgT q, nmT b] := hp
      simp only [List.mem_cons, List.not_mem_nil, or_false] at hp
      rcases hp with rfl | rfl | rfl | rfl
      · exact if_free
      · exact nm_free _ h1
      · exact sg_free _ h2
      · exact nm_free _ h3
theorem LD.split {D : LD} (h : D.ok) : Txt.split D.t " " = D.wl := split_sp (by simp [LD.wl, LD.ww]) fun p hp => (D.wl_all h p hp).1
theorem join_len (sep : Str) {B : Nat} : ∀ {ps : List Str}, (∀ p ∈ ps, p.length ≤ B) → (Str.join sep ps).length ≤ ps.length * (B + sep.length)
  | [], _ => Nat.zero_le _
  | [p], h => by
    have := h p List.mem_cons_self
    show p.length ≤ 1 * (B + sep.length)
    omega
  | p :: q :: r, h => by
    have ih := join_len sep (ps := q :: r) fun z hz => h z (List.mem_cons_of_mem _ hz)
    have h1 := h p List.mem_cons_self
    show (p ++ sep ++ Str.join sep (q :: r)).length ≤ _
    rw [len_app, len_app, List.length_cons, Nat.succ_mul]
    omega
theorem LD.wl_len {D : LD} (h : D.ok) : D.wl.length ≤ 13 := by
  have := h.le2
  have e : (gw D.gd).length ≤ 4 := by
    cases D.gd with
    | none => exact Nat.zero_le _
    | some g => exact Nat.le_refl _
  unfold LD.wl LD.ww
  rw [List.length_append, List.length_cons, List.length_map]
  omega
theorem LD.len {D : LD} (h : D.ok) : D.t.length ≤ 200 := by
  have h1 := join_len " " (B := 10) fun p hp => (D.wl_all h p hp).2
  have h2 := D.wl_len h
  have e : (" " : Str).length = 1 := by decide +kernel
  rw [e] at h1
  have h3 : D.wl.length * (10 + 1) ≤ 13 * 11 := Nat.mul_le_mul_right _ h2
  unfold LD.t
  omega
theorem pl_inj : ∀ a, a < 8 → ∀ b, b < 8 → plT a = plT b → a = b := by decide +kernel
theorem LD.pl_nd {D : LD} (h : D.ok) : (D.sp.map plT).Nodup := by
  have key : ∀ {l : List Nat}, (∀ s ∈ l, s < 8) → l.Nodup → (l.map plT).Nodup := by
    intro l
    induction l with
    | nil => intro _ _; exact List.nodup_nil
    | cons a l ih =>
      intro h1 h2
      refine List.nodup_cons.mpr ⟨fun z => ?_, ih (fun s hs => h1 s (List.mem_cons_of_mem _ hs)) (List.nodup_cons.mp h2).2⟩
      obtain ⟨b, hb, e⟩ := List.mem_map.mp z
      have := pl_inj b (h1 b (List.mem_cons_of_mem _ hb)) a (h1 a List.mem_cons_self) e
      subst this
      exact (List.nodup_cons.mp h2).1 hb
  exact key h.s8 h.nd
theorem all_tr {α : Type} (xs : List α) : (xs.map fun _ => true).all id = true := by induction xs with
  | nil => rfl
  | cons x xs ih => rw [List.map_cons, List.all_cons, ih]; rfl
def feN (c : Nat) : Int := if c = 3 then 3 else 2
def moN (c : Nat) : Int := if c = 3 then 8 else 2
theorem fe_mem : ∀ c, c < 4 → (wdT c, feN c) ∈ [(("swap" : Str), (2 : Int)), ("copy", 2), ("order", 2), ("turn", 3)] := by decide +kernel
theorem mo_mem : ∀ c, c < 4 → (wdT c, moN c) ∈ [(("swap" : Str), (2 : Int)), ("copy", 2), ("order", 2), ("turn", 8)] := by decide +kernel
theorem map_str_is (xs : List Str) : (xs.map fun t => is (.str t)) = (xs.map V.str).map is := by rw [List.map_map]; rfl
theorem inV_strs {x : Str} : ∀ {xs : List Str}, inV (.str x) (xs.map V.str) = decide (x ∈ xs)
  | [] => by simp [inV]
  | y :: xs => by
    have ih := inV_strs (x := x) (xs := xs)
    unfold inV at ih ⊢
    rw [List.map_cons, List.any_cons, ih]
    have e : eqV (.str y) (.str x) = (y == x) := rfl
    rw [e]
    by_cases h : y = x
    · subst h; simp
    · have h2 : ¬ x = y := fun z => h z.symm
      simp [h, h2]
section
variable {P : Program} {w : World} {K : PySem.W.Frag} {mg : Str → Option Value} {base : Heap} {A : Ad}
theorem sc_parsed_deed : FnScope ["value", "words", "guard", "at", "word", "spots", "spot"] ["value"] (defScope (top 24)) := ⟨rfl, rfl, rfl, by decide +kernel, rfl, by decide +kernel, by decide +kernel⟩
theorem fn_parsed_deed (T : Tx K w mg A) {D : LD} (h : D.ok) : FnG P w K mg base "parsed_deed" 3 [is (.str D.t)] [] [] (rD K A D) :=
  fng_of T.d_parsed_deed sc_parsed_deed rfl (fun _ _ _ _ _ _ us hl => match us, hl with | [_], _ => rfl) fun f cdv Ar outer s H E hr => by
  obtain ⟨l2, l8⟩ := h.le2
  obtain ⟨of, ef, nf, hf, kf, kvf, _⟩ := T.g_FEWEST
  obtain ⟨om, em, nm, hm, km, kvm, _⟩ := T.g_MOST
  obtain ⟨uf, vf, f1, f2, rfl⟩ := kvf _ (fe_mem _ h.w4)
  obtain ⟨um, vm, m1, m2, rfl⟩ := kvm _ (mo_mem _ h.w4)
  -- if not isinstance(value, str):
  refine dss_ifF (dt_not (k := true) (dt_val (de_bi (ca_isi ty_str) T.n_isinstance boot_isinstance (da_cons (de_var 0) (da_cons (de_bty T.n_str boot_str) da_nil))))) ?_
  -- words, guard = (value.split(' '), [])
  refine dss_par 1 2 (da_cons (de_eq (P' := rLi K (D.wl.map fun t => is (.str t))) (de_split (de_var 0) de_str (by decide +kernel) (Nat.le_trans (D.len h) (by decide))) (by rw [D.split h]; rfl)) (da_cons (de_lst da_nil) da_nil)) ?_ sc_parsed_deed.nd
  -- what follows the guard
  have fin : ∀ {X : Cx} (hX : X = Xb P w K mg base ["value", "words", "guard", "at", "word", "spots", "spot"] "parsed_deed" (defScope (top 24)) f cdv Ar outer s H E) {o : Option VP},
      DSs X [some (is (.str D.t)), some (rLi K (D.ww.map fun t => is (.str t))), some (rLi K (D.gd.w.map fun t => is (.str t))), o, none, none, none] [] [(defBody (top 24))[3]!, (defBody (top 24))[4]!, (defBody (top 24))[5]!, (defBody (top 24))[6]!] (retD (rD K A D) []) := fun {X} hX {o} => by
    subst hX
    -- if len(words) == 0 or words[0] not in FEWEST:
    refine dss_ifF (dt_of (dw_or (k := false) (l := false) (dt_eq (dt_cmp od_eqI (de_bi ca_lenL T.n_len boot_len (da_cons (de_var 1) da_nil)) de_int) (by simp [LD.ww]; omega)) fun _ => (dw_or1 (dt_cmp (od_notInKT kf f1) (de_ixL (de_var 1) de_int (atI_k 0 rfl)) (de_gc hf))))) ?_
    -- word, spots = (words[0], words[1:])
    refine dss_par 4 5 (da_cons (de_ixL (de_var 1) de_int (atI_k 0 rfl)) (da_cons (de_eq (P' := rLi K ((D.sp.map plT).map fun t => is (.str t))) (de_slL (de_var 1) (do_some de_int) do_none) (by rw [cutP_from (i := 1) (k := 1) rfl]; rfl)) da_nil)) ?_ sc_parsed_deed.nd
    have hln : (((D.sp.map plT).map fun t => is (.str t)).length : Int) = D.sp.length := by simp
    have hch : (decide (feN D.wd ≤ (((D.sp.map plT).map fun t => is (.str t)).length : Int)) && decide ((((D.sp.map plT).map fun t => is (.str t)).length : Int) ≤ moN D.wd)) = true := by
      rw [hln]
      have := h.w4
      unfold feN moN
      by_cases h3 : D.wd = 3
      · obtain ⟨z1, z2⟩ := h.l3 h3
        rw [if_pos h3, if_pos h3]
        simp
        omega
      · have z := h.l2 (by omega)
        rw [if_neg h3, if_neg h3]
        simp
        omega
    -- if not FEWEST[word] <= len(spots) <= MOST[word] or len(set(spots)) != len(spots):
    refine dss_ifF (dt_of (dw_or (k := false) (l := false) (dt_not (k := true) (dt_eq (dt_chain od_le (fun _ => od_le) (de_kdget kf (de_gc hf) (de_var 4) f1 f2) (de_bi ca_lenL T.n_len boot_len (da_cons (de_var 5) da_nil)) (fun _ => de_kdget km (de_gc hm) (de_var 4) m1 m2)) hch)) fun _ => dw_or1 (dt_eq (dt_cmp od_neI (de_lenSet T.n_len T.n_set (de_var 5) (D.pl_nd h) (by simp; omega)) (de_bi ca_lenL T.n_len boot_len (da_cons (de_var 5) da_nil))) (by simp)))) ?_
    -- return Deed(word, spots, guard) if all([spot in PLACES for spot in spots]) else None
    refine dss_ret (de_if (k := true) (dt_val (de_eq (P' := is (.bl true)) (de_bi ca_all T.n_all boot_all (da_cons (de_eq (P' := rLi K ((D.sp.map fun _ => true).map fun b => is (.bl b))) (de_lcA (xs := D.sp) (p := fun s => is (.str (plT s))) (r := fun s => is (.bl true)) (up := fun s G => G.set 6 (some (is (.str (plT s))))) (own := [("spot", 6)]) (js := [6]) sc_parsed_deed.nd (di_eq (di_list (de_var 5)) (by rw [List.map_map]; rfl)) (blk_of (by kernel_rfl)) (by simp) (by omega) (fun s H C cl fp x hx => (dg_name 6 sc_parsed_deed.nd)) (fun s H C cl fp x hx => (de_eq (de_cmp (od_inFT rfl (flat_strs _)) (de_var 6) (de_gt T.g_PLACES)) (by rw [in_pl _ (h.s8 x hx)])))) (by rw [List.map_map]; rfl)) da_nil)) (by rw [all_tr]))) (fun _ => (de_make (ini_Deed T) hr (de_gc T.v_Deed) (da_cons (de_var 4) (da_cons (de_var 5) (da_cons (de_var 2) da_nil))))) (fun z => nomatch z)) ?_
    refine rt_to fun v H b => ?_
    unfold rD
    rw [List.map_map] at b
    exact b
  cases hg : D.gd with
  | none =>
    have ew : D.wl = D.ww := by unfold LD.wl; rw [hg]; exact List.append_nil _
    rw [ew]
    -- if 'if' in words:
    have hno : ("if" : Str) ∉ D.ww := fun z => by
      rcases List.mem_cons.mp z with z | z
      · exact (wd_free _ h.w4).2.2 z.symm
      · obtain ⟨q, hq, e⟩ := List.mem_map.mp z
        exact (pl_free _ (h.s8 q hq)).2.2 e
    refine dss_ifF (dt_eq (dt_cmp (od_inF rfl (flat_strs D.ww)) de_str (de_eq (de_var 1) (by rw [map_str_is]; rfl))) (by rw [inV_strs, decide_eq_false hno])) ?_
    have z := fin rfl (o := none)
    rw [hg] at z
    exact z
  | some g =>
    obtain ⟨a, q, b⟩ := g
    have ho : Gd3.ok (some (a, q, b)) := by rw [← hg]; exact h.g
    have ew : D.wl = D.ww ++ [("if" : Str), nmT a, sgT q, nmT b] := by unfold LD.wl; rw [hg]; rfl
    rw [ew]
    have hno : ∀ {m : Nat} {z : Str}, m < 1 + D.sp.length → (D.ww ++ [("if" : Str), nmT a, sgT q, nmT b])[m]? = some z → ¬ z = "if" := fun {m z} hm hz e => by
      subst e
      have hl : m < D.ww.length := by unfold LD.ww; rw [List.length_cons, List.length_map]; omega
      rw [List.getElem?_append_left hl] at hz
      have z := List.mem_of_getElem? hz
      rcases List.mem_cons.mp z with z | z
      · exact (wd_free _ h.w4).2.2 z.symm
      · obtain ⟨q, hq, e⟩ := List.mem_map.mp z
        exact (pl_free _ (h.s8 q hq)).2.2 e
    have hat : (D.ww ++ [("if" : Str), nmT a, sgT q, nmT b])[1 + D.sp.length]? = some "if" := by
      have hl : D.ww.length = 1 + D.sp.length := by unfold LD.ww; rw [List.length_cons, List.length_map]; omega
      rw [List.getElem?_append_right (by omega), hl, Nat.sub_self]
      rfl
    -- if 'if' in words:
    refine dss_ifT (dt_eq (dt_cmp (od_inF rfl (flat_strs (D.ww ++ [("if" : Str), nmT a, sgT q, nmT b]))) de_str (de_eq (de_var 1) (by rw [map_str_is]; rfl))) (by rw [inV_strs]; exact decide_eq_true (List.mem_append_right _ List.mem_cons_self))) ?_
    -- at = words.index('if')
    refine dss_set 3 (de_lindex (x := .str "if") (z := .str "if") (xs := (D.ww ++ [("if" : Str), nmT a, sgT q, nmT b]).map V.str) (1 + D.sp.length) rfl (flat_strs _) (by rw [List.getElem?_map, hat]; rfl) (by decide +kernel) (fun m z' hm hz => ?_) (de_eq (de_var 1) (by rw [map_str_is]; rfl)) de_str) ?_ sc_parsed_deed.nd
    · rw [List.getElem?_map] at hz
      obtain ⟨z, hz1, rfl⟩ := Option.map_eq_some_iff.mp hz
      exact beq_eq_false_iff_ne.mpr (hno hm hz1)
    -- words, guard = (words[:at], words[at + 1:])
    have hl : D.ww.length = 1 + D.sp.length := by unfold LD.ww; rw [List.length_cons, List.length_map]; omega
    refine dss_par 1 2 (da_cons (de_eq (P' := rLi K (D.ww.map fun t => is (.str t))) (de_slL (de_var 1) do_none (do_some (de_var 3))) (by rw [cutP_to rfl, ← List.map_take, List.take_left' hl]; rfl))
      (da_cons (de_eq (P' := rLi K ([nmT a, sgT q, nmT b].map fun t => is (.str t))) (de_slL (de_var 1) (do_some (de_bin od_add (de_var 3) de_int)) do_none) (by rw [cutP_from (k := 1 + D.sp.length + 1) (by omega), ← List.map_drop, ← hl, List.drop_append, List.drop_of_length_le (by omega)]; simp; rfl)) da_nil)) ?_ sc_parsed_deed.nd
    -- if not is_guard(guard):
    refine dss_ifF (dt_not (k := true) (dt_val (de_call (fn_is_guard T ho) hr (da_cons (de_var 2) da_nil)))) ?_
    refine dss_nil ?_
    have z := fin rfl (o := some (is (.int ((1 + D.sp.length : Nat) : Int))))
    rw [hg] at z
    exact z
end
end
end SQ
end
section
set_option maxHeartbeats 400000
namespace SQ
open PySem PySem.Spec PyProof.Rows L2 StX ClX
noncomputable section
def imin (i j : Int) : Int := if j < i then j else i
section
variable {P : Program} {w : World} {K : PySem.W.Frag} {mg : Str → Option Value} {base : Heap} {A : Ad}
theorem sc_is_integer : FnScope ["value"] ["value"] (defScope (top 46)) := ⟨rfl, rfl, rfl, by decide +kernel, rfl, by decide +kernel, by decide +kernel⟩
theorem fn_is_integer (T : Tx K w mg A) {i : Int} : FnG P w K mg base "is_integer" 1 [is (.int i)] [] [] (is (.bl true)) :=
  fng_of T.d_is_integer sc_is_integer rfl (fun _ _ _ _ _ _ us hl => match us, hl with | [_], _ => rfl) fun f cdv Ar outer s H E hr => by
  exact dss_ret (de_and (k := true) (l := true) (de_bi (ca_isi ty_int) T.n_isinstance boot_isinstance (da_cons (de_var 0) (da_cons (de_bty T.n_int boot_int) da_nil))) fun _ => (de_one (de_not (k := false) (de_bi (ca_isi ty_int) T.n_isinstance boot_isinstance (da_cons (de_var 0) (da_cons (de_bty T.n_bool boot_bool) da_nil)))))) rt_same
theorem sc_within : FnScope ["value", "least", "most"] ["value", "least", "most"] (defScope (top 47)) := ⟨rfl, rfl, rfl, by decide +kernel, rfl, by decide +kernel, by decide +kernel⟩
theorem fn_within_values (T : Tx K w mg A) {v lo hi : Int} : FnG P w K mg base "within_values" 2 [is (.int v), is (.int lo), is (.int hi)] [] [] (is (.bl (decide (lo ≤ v) && decide (v ≤ hi)))) :=
  fng_of T.d_within_values sc_within rfl (fun _ _ _ _ _ _ us hl => match us, hl with | [_, _, _], _ => rfl) fun f cdv Ar outer s H E hr => by
  exact dss_ret (de_and (k := true) (de_call (fn_is_integer T) hr (da_cons (de_var 0) da_nil)) fun _ => (de_one (de_chain od_le (fun _ => od_le) (de_var 1) (de_var 0) (fun _ => (de_var 2))))) rt_same
theorem sc_is_cell : FnScope ["value", "size"] ["value", "size"] (defScope (top 49)) := ⟨rfl, rfl, rfl, by decide +kernel, rfl, by decide +kernel, by decide +kernel⟩
theorem fn_is_cell (T : Tx K w mg A) {c : Cell} {n : Int} (h : 0 ≤ c.1 ∧ c.1 < n ∧ 0 ≤ c.2 ∧ c.2 < n) : FnG P w K mg base "is_cell" 3 [rC c, is (.int n)] [] [] (is (.bl true)) :=
  fng_of T.d_is_cell sc_is_cell rfl (fun _ _ _ _ _ _ us hl => match us, hl with | [_, _], _ => rfl) fun f cdv Ar outer s H E hr => by
  have h1 : (decide (0 ≤ c.1) && decide (c.1 ≤ n - 1)) = true := by simp; omega
  have h2 : (decide (0 ≤ c.2) && decide (c.2 ≤ n - 1)) = true := by simp; omega
  refine dss_ifF (dt_of (dw_or (k := false) (l := false) (dt_not (k := true) (dt_val (de_bi (ca_isiT (Ps := (cV c).map is)) T.n_isinstance boot_isinstance (da_cons (de_to (de_var 0) fun _ _ b => tr_tu b) (da_cons (de_bty T.n_tuple boot_tuple) da_nil))))) fun _ => (dw_or1 (dt_cmp od_neI (de_bi (ca_lenT (Ps := (cV c).map is)) T.n_len boot_len (da_cons (de_to (de_var 0) fun _ _ b => tr_tu b) da_nil)) de_int)))) ?_
  exact dss_ret (de_and (k := true) (l := true) (de_eq (de_call (fn_within_values T) hr (da_cons (de_ixTr (xs := cV c) (de_var 0) de_int rfl) (da_cons de_int (da_cons (de_bin od_sub (de_var 1) de_int) da_nil)))) (by rw [h1])) fun _ => (de_one (de_eq (de_call (fn_within_values T) hr (da_cons (de_ixTr (xs := cV c) (de_var 0) de_int rfl) (da_cons de_int (da_cons (de_bin od_sub (de_var 1) de_int) da_nil)))) (by rw [h2])))) rt_same
theorem sc_check_size : FnScope ["value"] ["value"] (defScope (top 52)) := ⟨rfl, rfl, rfl, by decide +kernel, rfl, by decide +kernel, by decide +kernel⟩
theorem fn_check_size (T : Tx K w mg A) {n : Int} (h : 1 ≤ n ∧ n ≤ 10 ^ 30) : FnG P w K mg base "check_size" 3 [is (.int n)] [] [] (is .non) :=
  fng_of T.d_check_size sc_check_size rfl (fun _ _ _ _ _ _ us hl => match us, hl with | [_], _ => rfl) fun f cdv Ar outer s H E hr => by
  have h1 : (decide (1 ≤ n) && decide (n ≤ 1000000000000000000000000000000)) = true := by simp; omega
  exact dss_ifF (dt_not (k := true) (dt_val (de_eq (de_call (fn_within_values T) hr (da_cons (de_var 0) (da_cons de_int (da_cons (de_gv T.g_MOST_SIZE) da_nil)))) (by rw [h1])))) (dss_nil nx_none)
theorem sc_check_cell : FnScope ["size", "value"] ["size", "value"] (defScope (top 53)) := ⟨rfl, rfl, rfl, by decide +kernel, rfl, by decide +kernel, by decide +kernel⟩
theorem fn_check_cell (T : Tx K w mg A) {c : Cell} {n : Int} (h : 0 ≤ c.1 ∧ c.1 < n ∧ 0 ≤ c.2 ∧ c.2 < n) : FnG P w K mg base "check_cell" 4 [is (.int n), rC c] [] [] (is .non) :=
  fng_of T.d_check_cell sc_check_cell rfl (fun _ _ _ _ _ _ us hl => match us, hl with | [_, _], _ => rfl) fun f cdv Ar outer s H E hr => by
  exact dss_ifF (dt_not (k := true) (dt_val (de_call (fn_is_cell T h) hr (da_cons (de_var 1) (da_cons (de_var 0) da_nil))))) (dss_nil nx_none)
theorem sc_least_size : FnScope ["kind"] ["kind"] (defScope (top 59)) := ⟨rfl, rfl, rfl, by decide +kernel, rfl, by decide +kernel, by decide +kernel⟩
theorem fn_least_size (T : Tx K w mg A) {a b c : Int} : FnG P w K mg base "least_size" 1 [rTu K ([V.int a, .int b, .int c].map is)] [] [] (is (.int (2 * (a + b) + c + 1))) :=
  fng_of T.d_least_size sc_least_size rfl (fun _ _ _ _ _ _ us hl => match us, hl with | [_], _ => rfl) fun f cdv Ar outer s H E hr => by
  exact dss_ret (de_bin od_add (de_bin od_add (de_bin (od_mul (.inl ⟨by decide, by decide⟩)) de_int (de_bin od_add (de_ixT (de_var 0) de_int rfl) (de_ixT (de_var 0) de_int rfl))) (de_ixT (de_var 0) de_int rfl)) de_int) rt_same
theorem sc_corner : FnScope ["kind"] ["kind"] (defScope (top 60)) := ⟨rfl, rfl, rfl, by decide +kernel, rfl, by decide +kernel, by decide +kernel⟩
theorem fn_corner (T : Tx K w mg A) {a b c : Int} : FnG P w K mg base "corner" 1 [rTu K ([V.int a, .int b, .int c].map is)] [] [] (rC (a, a + b)) :=
  fng_of T.d_corner sc_corner rfl (fun _ _ _ _ _ _ us hl => match us, hl with | [_], _ => rfl) fun f cdv Ar outer s H E hr => by
  exact dss_ret (de_tupV [_, _] (da_cons (de_ixT (de_var 0) de_int rfl) (da_cons (de_bin od_add (de_ixT (de_var 0) de_int rfl) (de_ixT (de_var 0) de_int rfl)) da_nil))) rt_same
/-! ### the kind of a cell -/
def flo (n r c : Int) : Int := imin (imin r (n - 1 - r)) (imin c (n - 1 - c))
def fmi (n r c : Int) : Int := if imin r (n - 1 - r) < imin c (n - 1 - c) then imin c (n - 1 - c) else imin r (n - 1 - r)
theorem four {n r c : Int} : [flo n r c, fmi n r c, n - 1 - fmi n r c, n - 1 - flo n r c].Perm [r, c, n - 1 - r, n - 1 - c] ∧ flo n r c ≤ fmi n r c ∧ fmi n r c ≤ n - 1 - fmi n r c := by
  refine ⟨List.perm_iff_count.mpr fun a => ?_, ?_, ?_⟩
  · simp only [List.count_cons, List.count_nil]
    unfold flo fmi imin
    by_cases h1 : n - 1 - r < r
    · by_cases h2 : n - 1 - c < c
      · by_cases h3 : n - 1 - r < n - 1 - c
        · have h4 : ¬ n - 1 - c < n - 1 - r := by omega
          simp only [h1, h2, h3, h4, if_true, if_false]
          have e1 : n - 1 - (n - 1 - c) = c := by omega
          have e2 : n - 1 - (n - 1 - r) = r := by omega
          rw [e1, e2]
          omega
        · by_cases h4 : n - 1 - c < n - 1 - r
          · simp only [h1, h2, h3, h4, if_true, if_false]
            have e1 : n - 1 - (n - 1 - c) = c := by omega
            have e2 : n - 1 - (n - 1 - r) = r := by omega
            rw [e1, e2]
            omega
          · have e : r = c := by omega
            subst e
            simp only [h1, h4, if_true, if_false]
            have e2 : n - 1 - (n - 1 - r) = r := by omega
            rw [e2]
            omega
      · by_cases h3 : n - 1 - r < c
        · have h4 : ¬ c < n - 1 - r := by omega
          simp only [h1, h2, h3, h4, if_true, if_false]
          have e2 : n - 1 - (n - 1 - r) = r := by omega
          rw [e2]
          omega
        · by_cases h4 : c < n - 1 - r
          · simp only [h1, h2, h3, h4, if_true, if_false]
            have e2 : n - 1 - (n - 1 - r) = r := by omega
            rw [e2]
            omega
          · have e : c = n - 1 - r := by omega
            subst e
            simp only [h1, h2, h4, if_true, if_false]
            have e2 : n - 1 - (n - 1 - r) = r := by omega
            rw [e2]
            omega
    · by_cases h2 : n - 1 - c < c
      · by_cases h3 : r < n - 1 - c
        · have h4 : ¬ n - 1 - c < r := by omega
          simp only [h1, h2, h3, h4, if_true, if_false]
          have e1 : n - 1 - (n - 1 - c) = c := by omega
          rw [e1]
          omega
        · by_cases h4 : n - 1 - c < r
          · simp only [h1, h2, h3, h4, if_true, if_false]
            have e1 : n - 1 - (n - 1 - c) = c := by omega
            rw [e1]
            omega
          · have e : r = n - 1 - c := by omega
            subst e
            simp only [h1, h2, h4, if_true, if_false]
            have e1 : n - 1 - (n - 1 - c) = c := by omega
            rw [e1]
            omega
      · by_cases h3 : r < c
        · have h4 : ¬ c < r := by omega
          simp only [h1, h2, h3, h4, if_true, if_false]
          omega
        · by_cases h4 : c < r
          · simp only [h1, h2, h3, h4, if_true, if_false]
            omega
          · have e : r = c := by omega
            subst e
            simp only [h1, h4, if_false]
  · unfold flo fmi imin
    split <;> split <;> split <;> split <;> omega
  · unfold fmi imin
    split <;> split <;> split <;> omega
def kd (n r c : Int) : Int × Int × Int := (imin (flo n r c) 1, imin (fmi n r c - flo n r c) 2, imin (n - 1 - fmi n r c - fmi n r c) 3)
def kdV (k : Int × Int × Int) : List V := [.int k.1, .int k.2.1, .int k.2.2]
theorem sc_found_kind : FnScope ["size", "cell", "row", "column", "low", "middle", "high", "top"] ["size", "cell"] (defScope (top 58)) := ⟨rfl, rfl, rfl, by decide +kernel, rfl, by decide +kernel, by decide +kernel⟩
theorem fn_found_kind (T : Tx K w mg A) {n : Int} {c : Cell} : FnG P w K mg base "found_kind" 1 [is (.int n), rC c] [] [] (rTr (kdV (kd n c.1 c.2))) :=
  fng_of T.d_found_kind sc_found_kind rfl (fun _ _ _ _ _ _ us hl => match us, hl with | [_, _], _ => rfl) fun f cdv Ar outer s H E hr => by
  obtain ⟨h1, h2, h3⟩ := four (n := n) (r := c.1) (c := c.2)
  -- row, column = cell
  refine dss_asg (de_var 1) (dg_tupV (xs := cV c) (dgs_cons (dg_name 2 sc_found_kind.nd) (dgs_cons (dg_name 3 sc_found_kind.nd) dgs_nil))) ?_
  -- low, middle, high, top = sorted([row, column, size - 1 - row, size - 1 - column])
  refine dss_asg (de_bi (ca_sorted (ns := [c.1, c.2, n - 1 - c.1, n - 1 - c.2]) (by simp) h1 ?_) T.n_sorted boot_sorted (da_cons (de_lst (da_cons (de_var 2) (da_cons (de_var 3) (da_cons (de_bin od_sub (de_bin od_sub (de_var 0) de_int) (de_var 2)) (da_cons (de_bin od_sub (de_bin od_sub (de_var 0) de_int) (de_var 3)) da_nil))))) da_nil)) (dg_lst (dgs_cons (dg_name 4 sc_found_kind.nd) (dgs_cons (dg_name 5 sc_found_kind.nd) (dgs_cons (dg_name 6 sc_found_kind.nd) (dgs_cons (dg_name 7 sc_found_kind.nd) dgs_nil))))) ?_
  · simp only [List.pairwise_cons, List.mem_cons, List.not_mem_nil, or_false, forall_eq_or_imp, forall_eq, List.Pairwise.nil, and_true]
    simp
    omega
  -- return (min(low, 1), min(middle - low, 2), min(high - middle, 3))
  exact dss_ret (de_tupV [_, _, _] (da_cons (de_bi (ca_min2) T.n_min boot_min (da_cons (de_var 4) (da_cons de_int da_nil))) (da_cons (de_bi (ca_min2) T.n_min boot_min (da_cons (de_bin od_sub (de_var 5) (de_var 4)) (da_cons de_int da_nil))) (da_cons (de_bi (ca_min2) T.n_min boot_min (da_cons (de_bin od_sub (de_var 6) (de_var 5)) (da_cons de_int da_nil))) da_nil)))) rt_same
end
end
end SQ
end
section
set_option maxHeartbeats 400000
namespace SQ
open PySem PySem.Spec PyProof.Rows L2
/-! the orbit of a cell: its images, each once, in order -/
def leC (a b : Cell) : Bool := decide (a.1 < b.1 ∨ (a.1 = b.1 ∧ a.2 ≤ b.2))
def uniA (acc : List Cell) (cs : List Cell) : List Cell := cs.foldl (fun acc c => if c ∈ acc then acc else acc ++ [c]) acc
def orb (n i j : Int) : List Cell := uniA [] ((img n i j).mergeSort leC)
theorem uniA_cons {acc : List Cell} {c : Cell} {cs : List Cell} : uniA acc (c :: cs) = uniA (if c ∈ acc then acc else acc ++ [c]) cs := rfl
theorem uniA_mem : ∀ {cs acc : List Cell} {x : Cell}, x ∈ uniA acc cs ↔ x ∈ acc ∨ x ∈ cs
  | [], acc, x => by simp [uniA]
  | c :: cs, acc, x => by
    rw [uniA_cons, uniA_mem]
    by_cases h : c ∈ acc
    · rw [if_pos h, List.mem_cons]
      constructor
      · rintro (z | z)
        · exact .inl z
        · exact .inr (.inr z)
      · rintro (z | rfl | z)
        · exact .inl z
        · exact .inl h
        · exact .inr z
    · rw [if_neg h, List.mem_append, List.mem_singleton, List.mem_cons, or_assoc]
theorem uniA_nd : ∀ {cs acc : List Cell}, acc.Nodup → (uniA acc cs).Nodup
  | [], _, h => h
  | c :: cs, acc, h => by
    rw [uniA_cons]
    by_cases hc : c ∈ acc
    · rw [if_pos hc]
      exact uniA_nd h
    · rw [if_neg hc]
      refine uniA_nd (List.nodup_append.mpr ⟨h, by simp, fun a ha b hb e => ?_⟩)
      rw [List.mem_singleton.mp hb] at e
      subst e
      exact hc ha
theorem uniA_sub : ∀ {cs acc pre : List Cell}, List.Sublist acc pre → List.Sublist (uniA acc cs) (pre ++ cs)
  | [], acc, pre, h => by rw [List.append_nil]; exact h
  | c :: cs, acc, pre, h => by
    rw [uniA_cons]
    have e : pre ++ c :: cs = (pre ++ [c]) ++ cs := by rw [List.append_assoc]; rfl
    rw [e]
    refine uniA_sub ?_
    by_cases hc : c ∈ acc
    · rw [if_pos hc]
      exact h.trans (List.sublist_append_left _ _)
    · rw [if_neg hc]
      exact h.append (List.Sublist.refl _)
theorem leC_trans (a b c : Cell) (h1 : leC a b = true) (h2 : leC b c = true) : leC a c = true := by
  unfold leC at *
  simp only [decide_eq_true_eq] at *
  omega
theorem leC_total (a b : Cell) : (leC a b || leC b a) = true := by
  unfold leC
  simp only [Bool.or_eq_true, decide_eq_true_eq]
  omega
theorem leC_anti {a b : Cell} (h1 : leC a b = true) (h2 : leC b a = true) : a = b := by
  unfold leC at *
  simp only [decide_eq_true_eq] at *
  obtain ⟨a1, a2⟩ := a
  obtain ⟨b1, b2⟩ := b
  simp only at h1 h2
  have e1 : a1 = b1 := by omega
  have e2 : a2 = b2 := by omega
  rw [e1, e2]
theorem orb_nd (n i j : Int) : (orb n i j).Nodup := uniA_nd List.nodup_nil
theorem orb_mem {n i j : Int} {c : Cell} : c ∈ orb n i j ↔ c ∈ img n i j := by
  unfold orb
  rw [uniA_mem, List.mem_mergeSort]
  simp
theorem orb_srt (n i j : Int) : (orb n i j).Pairwise (fun a b => leC a b = true) := by
  have h := List.pairwise_mergeSort leC_trans leC_total (img n i j)
  have s := uniA_sub (cs := (img n i j).mergeSort leC) (List.Sublist.refl [])
  rw [List.nil_append] at s
  exact List.Pairwise.sublist s h
theorem orb_len (n i j : Int) : (orb n i j).length ≤ 8 := by
  have s := uniA_sub (cs := (img n i j).mergeSort leC) (List.Sublist.refl [])
  rw [List.nil_append] at s
  have := s.length_le
  rw [List.length_mergeSort] at this
  exact this
theorem img_at {n i j : Int} : ∀ s, s < 8 → im n i j s ∈ img n i j
  | 0, _ => by simp [im, img]
  | 1, _ => by simp [im, img]
  | 2, _ => by simp [im, img]
  | 3, _ => by simp [im, img]
  | 4, _ => by simp [im, img]
  | 5, _ => by simp [im, img]
  | 6, _ => by simp [im, img]
  | 7, _ => by simp [im, img]
  | s + 8, h => by omega
/-- two lists without repeats, of one membership, both in order -/
theorem eq_of_srt {α : Type} {le : α → α → Prop} {l m : List α} (h1 : l.Nodup) (h2 : m.Nodup) (hm : ∀ x, x ∈ l ↔ x ∈ m) (s1 : l.Pairwise le) (s2 : m.Pairwise le) (anti : ∀ a b, a ∈ l → b ∈ m → le a b → le b a → a = b) : l = m :=
  ((List.perm_ext_iff_of_nodup h1 h2).mpr hm).eq_of_pairwise (le := le) anti s1 s2
/-- the images of an image are the same cells -/
theorem img_img {n i j : Int} {c d : Cell} (h : c ∈ img n i j) (hd : d ∈ img n c.1 c.2) : d ∈ img n i j := by
  have e1 : n - 1 - (n - 1 - i) = i := by omega
  have e2 : n - 1 - (n - 1 - j) = j := by omega
  simp only [img, List.mem_cons, List.not_mem_nil, or_false] at h hd ⊢
  rcases h with rfl | rfl | rfl | rfl | rfl | rfl | rfl | rfl <;> simp only [e1, e2] at hd <;> rcases hd with rfl | rfl | rfl | rfl | rfl | rfl | rfl | rfl <;> simp
theorem img_sym {n i j : Int} {c : Cell} (h : c ∈ img n i j) : (i, j) ∈ img n c.1 c.2 := by
  have e1 : n - 1 - (n - 1 - i) = i := by omega
  have e2 : n - 1 - (n - 1 - j) = j := by omega
  simp only [img, List.mem_cons, List.not_mem_nil, or_false] at h ⊢
  rcases h with rfl | rfl | rfl | rfl | rfl | rfl | rfl | rfl <;> simp [e1, e2]
theorem orb_orb {n i j : Int} {c : Cell} (h : c ∈ orb n i j) : orb n c.1 c.2 = orb n i j := by
  have hc := orb_mem.mp h
  refine eq_of_srt (orb_nd _ _ _) (orb_nd _ _ _) (fun x => ?_) (orb_srt _ _ _) (orb_srt _ _ _) fun a b _ _ h1 h2 => leC_anti h1 h2
  rw [orb_mem, orb_mem]
  exact ⟨fun z => img_img hc z, fun z => img_img (c := (i, j)) (img_sym hc) z⟩
theorem orb_self (n i j : Int) : (i, j) ∈ orb n i j := orb_mem.mpr (by simp [img])
theorem orb_in {n i j : Int} {c : Cell} (h : 0 ≤ i ∧ i < n ∧ 0 ≤ j ∧ j < n) (hc : c ∈ img n i j) : 0 ≤ c.1 ∧ c.1 < n ∧ 0 ≤ c.2 ∧ c.2 < n := by
  simp only [img, List.mem_cons, List.not_mem_nil, or_false] at hc
  rcases hc with rfl | rfl | rfl | rfl | rfl | rfl | rfl | rfl <;> simp only <;> omega
end SQ
end
section
set_option maxHeartbeats 400000
namespace SQ
open PySem PySem.Spec PyProof.Rows L2 StX ClX
noncomputable section
def cI (c : Cell) : List Int := [c.1, c.2]
theorem cI_inj {a b : Cell} (h : cI a = cI b) : a = b := by
  obtain ⟨a1, a2⟩ := a
  obtain ⟨b1, b2⟩ := b
  simp [cI] at h
  rw [h.1, h.2]
theorem code_c (B : Int) (c : Cell) : TS.code B (cI c) = c.1 * B + c.2 := by
  show c.1 * B ^ 1 + (c.2 * B ^ 0 + 0) = _
  rw [Int.pow_zero, Int.mul_one, Int.add_zero]
  have : B ^ 1 = B := by rw [Int.pow_succ, Int.pow_zero, Int.one_mul]
  rw [this]
theorem code_le {B : Int} {a b : Cell} (ha : 0 ≤ a.2 ∧ a.2 < B) (hb : 0 ≤ b.2 ∧ b.2 < B) : a.1 * B + a.2 ≤ b.1 * B + b.2 ↔ leC a b = true := by
  unfold leC
  rw [decide_eq_true_eq]
  constructor
  · intro h
    by_cases h1 : a.1 < b.1
    · exact .inl h1
    · by_cases h2 : a.1 = b.1
      · rw [h2] at h
        exact .inr ⟨h2, by omega⟩
      · have := TS.num2 (P := B) (d := b.1) (e := a.1) (c := b.2) (g := a.2) hb.1 hb.2 ha.1 (by omega)
        omega
  · rintro (h | ⟨h1, h2⟩)
    · have := TS.num2 (P := B) (d := a.1) (e := b.1) (c := a.2) (g := b.2) ha.1 ha.2 hb.1 h
      omega
    · rw [h1]
      omega
section
variable {P : Program} {w : World} {K : PySem.W.Frag} {mg : Str → Option Value} {base : Heap} {A : Ad}
theorem sc_images_of : FnScope ["size", "cell", "row", "column", "far_row", "far_column", "found"] ["size", "cell"] (defScope (top 57)) := ⟨rfl, rfl, rfl, by decide +kernel, rfl, by decide +kernel, by decide +kernel⟩
theorem fn_images_of (T : Tx K w mg A) {n : Int} {c : Cell} (h : 0 ≤ c.1 ∧ c.1 < n ∧ 0 ≤ c.2 ∧ c.2 < n) : FnG P w K mg base "images_of" 1 [is (.int n), rC c] [] [] (rTf K ((orb n c.1 c.2).map rC)) :=
  fng_of T.d_images_of sc_images_of rfl (fun _ _ _ _ _ _ us hl => match us, hl with | [_, _], _ => rfl) fun f cdv Ar outer s H E hr => by
  -- row, column = cell
  refine dss_asg (de_var 1) (dg_tupV (xs := cV c) (dgs_cons (dg_name 2 sc_images_of.nd) (dgs_cons (dg_name 3 sc_images_of.nd) dgs_nil))) ?_
  -- far_row, far_column = (size - 1 - row, size - 1 - column)
  refine dss_par 4 5 (da_cons (de_bin od_sub (de_bin od_sub (de_var 0) de_int) (de_var 2)) (da_cons (de_bin od_sub (de_bin od_sub (de_var 0) de_int) (de_var 3)) da_nil)) ?_ sc_images_of.nd
  -- found = [(row, column), (column, row), (row, far_column), (far_column, row)]
  refine dss_set 6 (de_lst (da_cons (de_tupV [_, _] (da_cons (de_var 2) (da_cons (de_var 3) da_nil))) (da_cons (de_tupV [_, _] (da_cons (de_var 3) (da_cons (de_var 2) da_nil))) (da_cons (de_tupV [_, _] (da_cons (de_var 2) (da_cons (de_var 5) da_nil))) (da_cons (de_tupV [_, _] (da_cons (de_var 5) (da_cons (de_var 2) da_nil))) da_nil))))) ?_ sc_images_of.nd
  -- found = found + [(far_row, column), (column, far_row), (far_row, far_column), (far_column, far_row)]
  refine dss_set 6 (de_bin (od_cat (Ps := [_, _, _, _]) (Qs := [_, _, _, _]) (Nat.le_of_ble_eq_true rfl)) (de_var 6) (de_lst (da_cons (de_tupV [_, _] (da_cons (de_var 4) (da_cons (de_var 3) da_nil))) (da_cons (de_tupV [_, _] (da_cons (de_var 3) (da_cons (de_var 4) da_nil))) (da_cons (de_tupV [_, _] (da_cons (de_var 4) (da_cons (de_var 5) da_nil))) (da_cons (de_tupV [_, _] (da_cons (de_var 5) (da_cons (de_var 4) da_nil))) da_nil)))))) ?_ sc_images_of.nd
  -- return tuple(sorted(set(found)))
  have hb : ∀ x ∈ (img n c.1 c.2).map cI, x.length = 2 ∧ TS.Bd n x := fun x hx => by
    obtain ⟨d, hd, rfl⟩ := List.mem_map.mp hx
    have q := orb_in h hd
    refine ⟨rfl, fun m hm => ?_⟩
    simp only [cI, List.mem_cons, List.not_mem_nil, or_false] at hm
    rcases hm with rfl | rfl
    · exact ⟨q.1, q.2.1⟩
    · exact ⟨q.2.2.1, q.2.2.2⟩
  have un : ∀ Zs : List (List Int), Zs.Nodup → (∀ x, x ∈ Zs ↔ x ∈ (img n c.1 c.2).map cI) → Zs.Pairwise (fun q r => TS.code n q ≤ TS.code n r) → Zs = (orb n c.1 c.2).map cI := fun Zs h1 h2 h3 => by
    refine eq_of_srt h1 (List.pairwise_map.mpr (List.Pairwise.imp (fun ne e => ne (cI_inj e)) (orb_nd n c.1 c.2))) (fun x => ?_) h3 (List.pairwise_map.mpr (List.Pairwise.imp_of_mem (fun {a b} ha hb z => ?_) (orb_srt n c.1 c.2))) fun a b ha hb z1 z2 => ?_
    · rw [h2, List.mem_map, List.mem_map]
      constructor
      · rintro ⟨d, hd, e⟩
        exact ⟨d, orb_mem.mpr hd, e⟩
      · rintro ⟨d, hd, e⟩
        exact ⟨d, orb_mem.mp hd, e⟩
    · have q1 := orb_in h (orb_mem.mp ha)
      have q2 := orb_in h (orb_mem.mp hb)
      rw [code_c, code_c]
      exact (code_le ⟨q1.2.2.1, q1.2.2.2⟩ ⟨q2.2.2.1, q2.2.2.2⟩).mpr z
    · obtain ⟨d, hd, rfl⟩ := List.mem_map.mp ((h2 a).mp ha)
      obtain ⟨e, he, rfl⟩ := List.mem_map.mp hb
      have q1 := orb_in h hd
      have q2 := orb_in h (orb_mem.mp he)
      rw [code_c, code_c] at z1 z2
      rw [leC_anti ((code_le ⟨q1.2.2.1, q1.2.2.2⟩ ⟨q2.2.2.1, q2.2.2.2⟩).mp z1) ((code_le ⟨q2.2.2.1, q2.2.2.2⟩ ⟨q1.2.2.1, q1.2.2.2⟩).mp z2)]
  have hmap : ((orb n c.1 c.2).map cI).map (fun x => rTr (x.map V.int)) = (orb n c.1 c.2).map rC := by
    rw [List.map_map]
    rfl
  refine dss_ret (de_ty ca_tupF T.n_tuple boot_tuple (da_cons (de_eq (de_bi (ca_sortT ((img n c.1 c.2).map cI) ((orb n c.1 c.2).map cI) 2 n (by decide) hb un) T.n_sorted boot_sorted (da_cons (de_ty (ca_setT ((img n c.1 c.2).map cI) hr (by simp [img])) T.n_set boot_set (da_cons (de_var 6) da_nil)) da_nil)) (by rw [hmap])) da_nil)) rt_same
end
end
end SQ
end
section
set_option maxHeartbeats 400000
namespace SQ
open PySem PySem.Spec PyProof.Rows L2 StX ClX
noncomputable section
/-- let go of the owned list that stands first, in slot i -/
theorem dss_free1 {X : Cx} {G : Gm} {W : Ow} {rest : List Stmt} {D : DEn} {q : Addr} {C : OC} {P : VP} (i : Nat) (hG : G[i]? = some (some (is (.ref q)))) (k : ∀ u H, (∀ H', Same H H' → C u H') → H q = some u → Bx P (.ref q) H)
    (h : DSs X (G.set i (some P)) W rest D) : DSs X G ((q, C) :: W) rest D := ⟨fun pins s σ H E I ⟨c, S, eo⟩ => by
  have n2 := (List.nodup_cons.mp S.nd).1
  have nq : ¬ inO W q := n2
  exact (dss_free (W := (q, C) :: W) (W' := W) hG List.mem_cons_self (fun _ h => List.mem_cons_of_mem _ h) nq (fun h => (List.nodup_cons.mp h).2) k h).run pins s σ H E I ⟨c, S, eo⟩⟩
theorem dss_freeL {X : Cx} {G : Gm} {W : Ow} {rest : List Stmt} {D : DEn} {q : Addr} {Ps : List VP} (i : Nat) (h : DSs X (G.set i (some (rLi X.K Ps))) W rest D) (hG : G[i]? = some (some (is (.ref q))) := by rfl) : DSs X G ((q, oLi Ps) :: W) rest D :=
  dss_free1 i hG (fun u H hc h => li_of hc h) h
theorem dx_append1 {X : Cx} {G : Gm} {q : Addr} {Qs : List VP} {W : Ow} {a e : Expr} {P : VP} {apos cpos : Pos} (ho : DE X G ((q, oLi Qs) :: W) a (is (.ref q))) (ha : DE X G ((q, oLi Qs) :: W) e P) (hl : Qs.length < 100000)
    (hbase : attributeBase a "append" X.env (eval a X.env) = eval a X.env := by rfl)
    (hfew : ((backTo cpos (starEach [e] X.env)).all (fun x => !x.1) && (backToKw cpos (keywordEach [] X.env)).all (fun x => x.1.isSome)
      && decide ([e].length + ([] : List Keyword).length + (if ([] : List Keyword).isEmpty then 0 else 1) < 30)) = true := by rfl)
    (hline : (apos.endLine == cpos.line) = true := by rfl) (hs : starEach [e] X.env = [(false, eval e X.env)] := by rfl) :
    DX X G ((q, oLi Qs) :: W) ((q, oLi (Qs ++ [P])) :: W) (.Call (.Attribute a "append" apos) [e] [] cpos) (is .non) := by
  have := dx_append (X := X) (apos := apos) (cpos := cpos) (P := P) List.mem_cons_self ho ha hl hbase hfew hline hs
  have e2 : putO ((q, oLi Qs) :: W) q (oLi (Qs ++ [P])) = (q, oLi (Qs ++ [P])) :: W := by simp [putO]
  rw [e2] at this
  exact this
theorem od_and1 {X : Cx} {W : Ow} {i : Int} : OpD X W (binaryOp .BitAnd) (is (.int i)) (is (.int 1)) (is (.int (i % 2))) := by
  have := od_and (X := X) (W := W) (i := i) (j := 1)
  rw [bitAnd_m1] at this
  exact this
theorem enP_map {K : PySem.W.Frag} {α : Type} (f : α → VP) (xs : List α) : enP K (xs.map f) = xs.zipIdx.map fun p => rTu K [is (.int (p.2 : Nat)), f p.1] := by
  unfold enP
  rw [List.mapIdx_eq_zipIdx_map, List.zipIdx_map, List.map_map]
  rfl
/-- the table of entry k -/
def stT (c k : Nat) : Int := (2 ^ 2 ^ c - 1) / (2 ^ 2 ^ k + 1) * 2 ^ 2 ^ k
def mvB (ts : List Int) (b : Nat) : Int := (ts.zipIdx.map fun p => p.1 / 2 ^ b % 2 * 2 ^ p.2).sum
def mvs (ts : List Int) : List Int := (List.range (2 ^ ts.length)).map (mvB ts)
def rI (x : Int) : VP := is (.int x)
theorem pw_toNat (k : Nat) : ((2 : Int) ^ k).toNat = 2 ^ k := by
  have : ((2 : Int) ^ k) = ((2 ^ k : Nat) : Int) := by push_cast; rfl
  rw [this]
  rfl
section
variable {P : Program} {w : World} {K : PySem.W.Frag} {mg : Str → Option Value} {base : Heap} {A : Ad}
theorem sc_starts : FnScope ["count", "whole", "k"] ["count"] (defScope (top 66)) := ⟨rfl, rfl, rfl, by decide +kernel, rfl, by decide +kernel, by decide +kernel⟩
theorem fn_starts (T : Tx K w mg A) {c : Nat} (h : c ≤ 8) : FnG P w K mg base "starts" 1 [is (.int c)] [] [] (rLi K ((List.range c).map fun k => rI (stT c k))) :=
  fng_of T.d_starts sc_starts rfl (fun _ _ _ _ _ _ us hl => match us, hl with | [_], _ => rfl) fun f cdv Ar outer s H E hr => by
  have p1 : (1 : Int) * 2 ^ ((1 : Int) * 2 ^ (c : Int).toNat).toNat - 1 = 2 ^ 2 ^ c - 1 := by
    rw [Int.one_mul, Int.one_mul, Int.toNat_natCast, pw_toNat]
  have b1 : ∀ k, k ≤ 8 → 0 ≤ ((k : Nat) : Int) ∧ (Builtin.Int.intBits 1 : Int) + ((k : Nat) : Int) ≤ 2 ^ 27 := by decide +kernel
  have b2 : ∀ k : Nat, k ≤ 8 → 0 ≤ (1 : Int) * 2 ^ (k : Int).toNat ∧ (Builtin.Int.intBits 1 : Int) + (1 : Int) * 2 ^ (k : Int).toNat ≤ 2 ^ 27 := by decide +kernel
  have b3 : ∀ k : Nat, k ≤ 8 → 0 < (1 : Int) * 2 ^ ((1 : Int) * 2 ^ (k : Int).toNat).toNat + 1 ∧ ((1 : Int) * 2 ^ ((1 : Int) * 2 ^ (k : Int).toNat).toNat + 1).natAbs.log2 < 9000 := by decide +kernel
  have b4 : ∀ c : Nat, c ≤ 8 → ∀ k : Nat, k < c → 0 ≤ (1 : Int) * 2 ^ (k : Int).toNat ∧ (Builtin.Int.intBits (((2 : Int) ^ 2 ^ c - 1) / ((1 : Int) * 2 ^ ((1 : Int) * 2 ^ (k : Int).toNat).toNat + 1)) : Int) + (1 : Int) * 2 ^ (k : Int).toNat ≤ 2 ^ 27 := by decide +kernel
  -- whole = (1 << (1 << count)) - 1
  refine dss_set 1 (P := is (.int (2 ^ 2 ^ c - 1))) (de_eq (de_bin od_sub (de_bin (od_shl (b2 c h)) de_int (de_bin (od_shl (b1 c h)) de_int (de_var 0))) de_int) (by rw [p1])) ?_ sc_starts.nd
  -- return [whole // ((1 << (1 << k)) + 1) << (1 << k) for k in range(count)]
  refine dss_ret (de_lcA (own := [("k", 2)]) (js := [2]) (xs := List.range c) (p := fun k => is (.int (0 + (k : Nat)))) (up := fun k G => G.set 2 (some (is (.int (0 + (k : Nat)))))) sc_starts.nd (di_range1 (n := (c : Int)) T.n_range (da_cons (de_var 0) da_nil) (by omega)) (blk_of (by kernel_rfl)) (by simp) (by rw [List.length_range]; omega) (fun s H C cl fp x hx => (dg_name 2 sc_starts.nd)) (fun s H C cl fp x hx => ?_)) (rt_same)
  have hx := List.mem_range.mp hx
  have ez : (0 : Int) + (x : Nat) = (x : Nat) := by omega
  simp only [ez]
  refine de_eq (de_bin (od_shl (b4 c h x hx)) (de_bin (od_fdivW (b3 x (by omega)).1 (b3 x (by omega)).2) (de_var 1) (de_bin od_add (de_bin (od_shl (b2 x (by omega))) de_int (de_bin (od_shl (b1 x (by omega))) de_int (de_var 2))) de_int)) (de_bin (od_shl (b1 x (by omega))) de_int (de_var 2))) ?_
  unfold rI stT
  rw [Int.one_mul, Int.one_mul, Int.toNat_natCast, pw_toNat]
theorem sc_meet_rows : FnScope ["one", "other"] ["one", "other"] (defScope (top 67)) := ⟨rfl, rfl, rfl, by decide +kernel, rfl, by decide +kernel, by decide +kernel⟩
theorem fn_meet_rows (T : Tx K w mg A) {x y : Int} : FnG P w K mg base "meet_rows" 1 [is (.int x), is (.int y)] [] [] (is (.int (Builtin.bitAnd x y))) :=
  fng_of T.d_meet_rows sc_meet_rows rfl (fun _ _ _ _ _ _ us hl => match us, hl with | [_, _], _ => rfl) fun f cdv Ar outer s H E hr => by
  exact dss_ret (de_bin od_and (de_var 0) (de_var 1)) (rt_same)
theorem sc_join_rows : FnScope ["one", "other"] ["one", "other"] (defScope (top 68)) := ⟨rfl, rfl, rfl, by decide +kernel, rfl, by decide +kernel, by decide +kernel⟩
theorem fn_join_rows (T : Tx K w mg A) {x y : Int} : FnG P w K mg base "join_rows" 1 [is (.int x), is (.int y)] [] [] (is (.int (Builtin.bitOr x y))) :=
  fng_of T.d_join_rows sc_join_rows rfl (fun _ _ _ _ _ _ us hl => match us, hl with | [_, _], _ => rfl) fun f cdv Ar outer s H E hr => by
  exact dss_ret (de_bin od_or (de_var 0) (de_var 1)) (rt_same)
theorem sc_moves_from : FnScope ["tables", "found", "content", "k", "table"] ["tables"] (defScope (top 69)) := ⟨rfl, rfl, rfl, by decide +kernel, rfl, by decide +kernel, by decide +kernel⟩
theorem fn_moves_from (T : Tx K w mg A) {ts : List Int} (h : ts.length ≤ 8) : FnG P w K mg base "moves_from" 1 [rLi K (ts.map rI)] [] [] (rTu K ((mvs ts).map rI)) :=
  fng_of T.d_moves_from sc_moves_from rfl (fun _ _ _ _ _ _ us hl => match us, hl with | [_], _ => rfl) fun f cdv Ar outer s H E hr => by
  have b1 : ∀ k, k ≤ 8 → 0 ≤ ((k : Nat) : Int) ∧ (Builtin.Int.intBits 1 : Int) + ((k : Nat) : Int) ≤ 2 ^ 27 := by decide +kernel
  have b2 : ∀ k, k ≤ 8 → 2 ^ k ≤ 256 := by decide +kernel
  have b3 : ∀ e, e < 2 → ∀ k, k ≤ 8 → 0 ≤ ((k : Nat) : Int) ∧ (Builtin.Int.intBits ((e : Nat) : Int) : Int) + ((k : Nat) : Int) ≤ 2 ^ 27 := by decide +kernel
  -- found = []
  refine dss_setN 1 (dn_lst da_nil) (fun q => ?_) sc_moves_from.nd
  have hn : (2 : Int) ^ (ts.length : Int).toNat = ((2 ^ ts.length : Nat) : Int) := by
    rw [Int.toNat_natCast]
    push_cast
    rfl
  have h2 := b2 _ h
  have h3 : -1000000 ≤ ((2 ^ ts.length : Nat) : Int) ∧ ((2 ^ ts.length : Nat) : Int) < 1000000 := by
    generalize 2 ^ ts.length = z at h2 ⊢
    omega
  -- for content in range(1 << len(tables)):
  refine dss_for (Iv := fun m G W => (∃ o, G = [some (rLi K (ts.map rI)), some (is (.ref q)), o, none, none]) ∧ W = [(q, oLi ((List.range m).map fun b => rI (mvB ts b)))])
    (di_range1 (n := ((2 ^ ts.length : Nat) : Int)) T.n_range (da_cons (de_eq (de_bin (od_shl (b1 _ h)) de_int (de_eq (de_bi ca_lenL T.n_len boot_len (da_cons (de_var 0) da_nil)) (by rw [List.length_map]))) (by rw [Int.one_mul, hn])) da_nil) h3) (fun P hP => (dg_name 2 sc_moves_from.nd)) ⟨⟨_, rfl⟩, rfl⟩ (fun m P G1 W1 hP hI => ?_) (fun G1 W1 hI => ?_)
  · obtain ⟨⟨o, rfl⟩, rfl⟩ := hI
    obtain ⟨rfl, hm⟩ := rg_at hP
    have hm : m < 2 ^ ts.length := hm
    have ez : (0 : Int) + (m : Nat) = (m : Nat) := by omega
    rw [ez]
    -- found.append(sum([(table >> content & 1) << k for k, table in enumerate(tables)]))
    refine dss_expr (P := is .non) (dx_append1 (P := rI (mvB ts m)) (de_var 1) (de_eq (de_bi (ca_sum (ns := ts.zipIdx.map fun p => p.1 / 2 ^ m % 2 * 2 ^ p.2)) T.n_sum boot_sum (da_cons (de_eq (de_lcA (own := [("k", 3), ("table", 4)]) (js := [3, 4]) (xs := ts.zipIdx) (p := fun p => rTu K [is (.int (p.2 : Nat)), rI p.1]) (r := fun p => rI (p.1 / 2 ^ m % 2 * 2 ^ p.2)) (up := fun p G => (G.set 3 (some (is (.int (p.2 : Nat))))).set 4 (some (rI p.1))) sc_moves_from.nd (di_eq (di_enum T.n_enumerate (de_var 0)) (enP_map rI ts)) (blk_of (by kernel_rfl)) (by simp) (by rw [List.length_zipIdx]; omega) (fun s H C cl fp x hx => (dg_tup (dgs_cons (dg_name 3 sc_moves_from.nd) (dgs_cons (dg_name 4 sc_moves_from.nd) dgs_nil)))) (fun s H C cl fp x hx => ?_)) (by rw [List.map_map]; rfl)) da_nil)) rfl) (by rw [List.length_map, List.length_range]; omega)) (dss_nil ?_)
    · have hk : x.2 < ts.length := by
        have := List.mem_zipIdx hx
        omega
      have e2 : x.1 / 2 ^ m % 2 = ((x.1 / 2 ^ m % 2).toNat : Int) := by omega
      refine de_eq (de_bin (od_shl (?_ : 0 ≤ ((x.2 : Nat) : Int) ∧ (Builtin.Int.intBits (x.1 / 2 ^ m % 2) : Int) + ((x.2 : Nat) : Int) ≤ 2 ^ 27)) (de_bin od_and1 (de_eq (de_bin (od_shr (i := x.1) (Int.natCast_nonneg m)) (de_var 4) (de_var 2)) (by rw [Int.toNat_natCast])) de_int) (de_var 3)) (by rw [Int.toNat_natCast]; rfl)
      rw [e2]
      exact b3 _ (by omega) _ (by omega)
    · refine ⟨⟨_, rfl⟩, ?_⟩
      rw [List.range_succ, List.map_append]
      rfl
  · obtain ⟨⟨o, rfl⟩, rfl⟩ := hI
    rw [rg_len]
    -- return tuple(found)
    refine dss_freeL 1 ?_
    exact dss_ret (de_ty ca_tupL T.n_tuple boot_tuple (da_cons (de_eq (de_var 1) (by rw [mvs, List.map_map]; rfl)) da_nil)) (rt_same)
end
end
end SQ
end
section
set_option maxHeartbeats 400000
namespace SQ
open PySem PySem.Spec PyProof.Rows L2 StX ClX
noncomputable section
/-- a nest of the plan -/
structure LN where
  o : Lp
  i : Lp
  ds : List LD
def LN.ok (N : LN) : Prop := N.o.ok 12 ∧ N.i.ok 18 ∧ (∀ D ∈ N.ds, LD.ok D) ∧ N.ds.length ≤ 6
def rN (K : PySem.W.Frag) (A : Ad) (N : LN) : VP := rIn A.nest ["over", "below", "texts", "parsed"] [is (.str N.o.t), is (.str N.i.t), rTu K (N.ds.map fun D => is (.str D.t)), rLi K (N.ds.map (rD K A))]
def rP (K : PySem.W.Frag) (A : Ad) (Ns : List LN) : VP := rIn A.prog ["parts"] [rTu K (Ns.map (rN K A))]
def falT (N : LN) (m i : Int) : Bool := decide (endV N.i.a m i < lmax (endV N.i.a m i) (endV N.i.b m i)) && (decide (i < 0) || (decide (m ≤ i) || (decide (endV N.i.a m i < 0) || decide (m < lmax (endV N.i.a m i) (endV N.i.b m i)))))
def falN (m : Int) (N : LN) : Bool := (List.range (lmax (endV N.o.a m 0) (endV N.o.b m 0) - endV N.o.a m 0).toNat).any fun k => falT N m (endV N.o.a m 0 + (k : Nat))
def clmp (n : Int) : Int := if 7 < n then 6 + n % 2 else n
def fal (Ns : List LN) (n : Int) : Bool := Ns.any (falN (clmp n))
theorem endV_bd {a : Nat} {n i : Int} (h : a < 18) (hn : 0 ≤ n ∧ n ≤ 1000) (hi : -1000 ≤ i ∧ i ≤ 1000) : -3000 ≤ endV a n i ∧ endV a n i ≤ 3000 := by
  have : ∀ b, b < 6 → -2000 ≤ bsV b n i ∧ bsV b n i ≤ 2000 := by
    intro b hb
    rcases b with _ | _ | _ | _ | _ | _ | _ <;> simp only [bsV] <;> omega
  have h2 := this (a / 3) (by omega)
  unfold endV
  omega
theorem any_snoc {α : Type} {f : α → Bool} {xs : List α} {m : Nat} {x : α} (h : xs[m]? = some x) (a : (xs.take m).any f = false) (b : f x = false) : (xs.take (m + 1)).any f = false := by
  rw [List.take_succ, List.any_append, a, h]
  simp [b]
theorem any_at {α : Type} {f : α → Bool} {xs : List α} {m : Nat} {x : α} (h : xs[m]? = some x) (b : f x = true) : xs.any f = true := List.any_eq_true.mpr ⟨x, List.mem_of_getElem? h, b⟩
section
variable {P : Program} {w : World} {K : PySem.W.Frag} {mg : Str → Option Value} {base : Heap} {A : Ad}
theorem sc_falls_at : FnScope ["program", "size", "nest", "low", "high", "down", "i", "first", "behind", "turned"] ["program", "size"] (defScope (top 64)) := ⟨rfl, rfl, rfl, by decide +kernel, rfl, by decide +kernel, by decide +kernel⟩
theorem fn_falls_at (T : Tx K w mg A) {Ns : List LN} {n : Int} (hN : ∀ N ∈ Ns, LN.ok N) (hn : 0 ≤ n) : FnG P w K mg base "falls_at" 3 [rP K A Ns, is (.int n)] [] [] (is (.bl (fal Ns n))) :=
  fng_of T.d_falls_at sc_falls_at rfl (fun _ _ _ _ _ _ us hl => match us, hl with | [_, _], _ => rfl) fun f cdv Ar outer s H E hr => by
  unfold fal
  suffices key : ∀ m : Int, 0 ≤ m → m ≤ 7 → ∀ G, G = [some (rP K A Ns), some (is (.int m)), none, none, none, none, none, none, none, none] → ∀ D : DEn, (∀ o : Bool, o = Ns.any (falN m) → D.rt (is (.bl o)) []) → DSs _ G [] ((defBody (top 64)).drop 1) D by
    -- if size > 7:
    refine dss_if (dt_cmp od_gt (de_var 1) de_int) (fun hc => ?_) (fun hc => ?_)
    · -- size = 6 + int(size) % 2
      have hc := of_decide_eq_true hc
      refine dss_set 1 (de_bin od_add de_int (de_bin (od_mod (by decide)) (de_ty ca_int T.n_int boot_int (da_cons (de_var 1) da_nil)) de_int)) (dss_nil ?_) sc_falls_at.nd
      have e : clmp n = 6 + n % 2 := if_pos hc
      rw [e]
      exact key _ (by omega) (by omega) _ rfl _ fun o e => e ▸ rt_same
    · have hc := of_decide_eq_false hc
      refine dss_nil ?_
      have e : clmp n = n := if_neg hc
      rw [e]
      exact key _ (by omega) (by omega) _ rfl _ fun o e => e ▸ rt_same
  intro m m0 m7 G hG D hD
  subst hG
  -- for nest in program.parts:
  refine dss_for (Iv := fun t G W => (∃ o2 o3 o4 o5 o6 o7 o8 o9, G = [some (rP K A Ns), some (is (.int m)), o2, o3, o4, o5, o6, o7, o8, o9]) ∧ W = [] ∧ (Ns.take t).any (falN m) = false) (di_tup (de_fld 0 T.c_Program T.na_Program_parts (de_var 0))) (fun P hP => (dg_name 2 sc_falls_at.nd)) ⟨⟨_, _, _, _, _, _, _, _, rfl⟩, rfl, rfl⟩ (fun t P G1 W1 hP hI => ?_) (fun G1 W1 hI => ?_)
  · obtain ⟨⟨o2, o3, o4, o5, o6, o7, o8, o9, rfl⟩, rfl, hI⟩ := hI
    rw [List.getElem?_map] at hP
    cases hNt : Ns[t]? with
    | none => rw [hNt] at hP; cases hP
    | some N =>
    rw [hNt] at hP
    cases hP
    have oN := hN N (List.mem_of_getElem? hNt)
    have ba := endV_bd (a := N.o.a) (n := m) (i := 0) (by have := oN.1.1; omega) ⟨m0, by omega⟩ (by omega)
    have bb := endV_bd (a := N.o.b) (n := m) (i := 0) (by have := oN.1.2; omega) ⟨m0, by omega⟩ (by omega)
    have bm : ∀ x y : Int, lmax x y = x ∨ lmax x y = y := fun x y => by
      unfold lmax
      by_cases z : y > x
      · rw [if_pos z]; exact .inr rfl
      · rw [if_neg z]; exact .inl rfl
    have bl := bm (endV N.o.a m 0) (endV N.o.b m 0)
    -- low, high, down = loop_range(nest.over, size, None)
    refine dss_asg (de_call (fn_loop_range T (i := 0) (.inl oN.1)) hr (da_cons (de_fld 0 T.c_Nest T.na_Nest_over (de_var 2)) (da_cons (de_var 1) (da_cons de_non da_nil)))) (dg_tupV (dgs_cons (dg_name 3 sc_falls_at.nd) (dgs_cons (dg_name 4 sc_falls_at.nd) (dgs_cons (dg_name 5 sc_falls_at.nd) dgs_nil)))) ?_
    generalize hlo : endV N.o.a m 0 = lo at *
    generalize hhi : lmax lo (endV N.o.b m 0) = hi at *
    have efal : falN m N = (List.range (hi - lo).toNat).any fun k => falT N m (lo + (k : Nat)) := by
      unfold falN
      rw [hlo, hhi]
    -- for i in range(low, high):
    refine dss_for (Iv := fun u G W => (∃ o6 o7 o8 o9, G = [some (rP K A Ns), some (is (.int m)), some (rN K A N), some (is (.int lo)), some (is (.int hi)), some (is (.bl N.o.d)), o6, o7, o8, o9]) ∧ W = [] ∧ ((List.range (hi - lo).toNat).take u).any (fun k => falT N m (lo + (k : Nat))) = false) (di_range2 (m := lo) (n := hi) T.n_range (da_cons (de_var 3) (da_cons (de_var 4) da_nil)) (by omega)) (fun P hP => (dg_name 6 sc_falls_at.nd)) ⟨⟨_, _, _, _, rfl⟩, rfl, rfl⟩ (fun u P G1 W1 hP hI2 => ?_) (fun G1 W1 hI2 => ?_)
    · obtain ⟨⟨o6, o7, o8, o9, rfl⟩, rfl, hI2⟩ := hI2
      obtain ⟨rfl, hu⟩ := rg_at hP
      have hu2 : (List.range (hi - lo).toNat)[u]? = some u := by rw [List.getElem?_range hu]
      -- first, behind, turned = loop_range(nest.below, size, i)
      refine dss_asg (de_call (fn_loop_range T (i := lo + (u : Nat)) (.inr ⟨oN.2.1, rfl⟩)) hr (da_cons (de_fld 1 T.c_Nest T.na_Nest_below (de_var 2)) (da_cons (de_var 1) (da_cons (de_var 6) da_nil)))) (dg_tupV (dgs_cons (dg_name 7 sc_falls_at.nd) (dgs_cons (dg_name 8 sc_falls_at.nd) (dgs_cons (dg_name 9 sc_falls_at.nd) dgs_nil)))) ?_
      -- if first < behind and (i < 0 or i >= size or first < 0 or (behind > size)):
      refine dss_when (k := falT N m (lo + (u : Nat))) (dt_of (dw_and (dt_cmp od_lt (de_var 7) (de_var 8)) fun _ => (dw_and1 (dt_of (dw_or (dt_cmp od_lt (de_var 6) de_int) fun _ => (dw_or (dt_cmp od_ge (de_var 6) (de_var 1)) fun _ => (dw_or (dt_cmp od_lt (de_var 7) de_int) fun _ => (dw_or1 (dt_cmp od_gt (de_var 8) (de_var 1)))))))))) (fun hc => ?_) (fun hc => ?_)
      · -- return True
        exact dss_ret de_bl (hD true (any_at hNt (efal.trans (any_at hu2 hc))).symm)
      · exact dss_nil ⟨⟨_, _, _, _, rfl⟩, rfl, any_snoc hu2 hI2 hc⟩
    · obtain ⟨⟨o6, o7, o8, o9, rfl⟩, rfl, hI2⟩ := hI2
      rw [rg_len] at hI2
      refine dss_nil ⟨⟨_, _, _, _, _, _, _, _, rfl⟩, rfl, any_snoc hNt hI ?_⟩
      rw [efal]
      have e : (List.range (hi - lo).toNat).take (hi - lo).toNat = List.range (hi - lo).toNat := by
        rw [List.take_of_length_le (by rw [List.length_range]; exact Nat.le_refl _)]
      rwa [e] at hI2
  · obtain ⟨⟨o2, o3, o4, o5, o6, o7, o8, o9, rfl⟩, rfl, hI⟩ := hI
    rw [List.length_map, List.take_length] at hI
    -- return False
    exact dss_ret de_bl (hD false hI.symm)
end
end
end SQ
end
section
set_option maxHeartbeats 400000
namespace SQ
open PySem PySem.Spec PyProof.Rows L2 StX ClX
noncomputable section
def sg (d : Bool) (x : Int) : Int := if d = true then -x else x
def leR (dO dI : Bool) (a b : Cell) : Bool := decide (sg dO a.1 < sg dO b.1 ∨ (sg dO a.1 = sg dO b.1 ∧ sg dI a.2 ≤ sg dI b.2))
def k4 (dO dI : Bool) (c : Cell) : List Int := [sg dO c.1, sg dI c.2, c.1, c.2]
def rds (N : LN) (n : Int) (cs : List Cell) : List Cell := (cs.filter fun c => inL N.o n 0 c.1 && inL N.i n c.1 c.2).mergeSort (leR N.o.d N.i.d)
theorem rds_mem {N : LN} {n : Int} {cs : List Cell} {c : Cell} (h : c ∈ rds N n cs) : c ∈ cs := (List.mem_filter.mp ((List.mergeSort_perm _ _).mem_iff.mp h)).1
theorem dataLe_k4 (dO dI : Bool) : PySem.W.dataLe false (fun c => PyData.tuple ((k4 dO dI c).map .int)) = leR dO dI := by
  funext a b
  show (!PySem.W.dataLt (.tuple ((k4 dO dI b).map .int)) (.tuple ((k4 dO dI a).map .int))) = _
  rw [PySem.W.dataLt_tuple]
  have := PySem.W.dataLt_ints (k4 dO dI b) (k4 dO dI a)
  unfold PySem.W.rowLt at this
  rw [this]
  have e : (k4 dO dI b < k4 dO dI a) ↔ ¬ leR dO dI a b = true := by
    unfold leR k4
    rw [decide_eq_true_eq]
    simp only [List.cons_lt_cons_iff, List.not_lt_nil, and_false, or_false, List.lt_irrefl]
    cases dO <;> cases dI <;> simp [sg] <;> omega
  by_cases h : leR dO dI a b = true
  · rw [h]
    have : ¬ (k4 dO dI b < k4 dO dI a) := fun z => (e.mp z) h
    simp [this]
  · have z := e.mpr h
    simp [z]
    exact Bool.eq_false_iff.mpr h
section
variable {P : Program} {w : World} {K : PySem.W.Frag} {mg : Str → Option Value} {base : Heap} {A : Ad}
def r4 (dO dI : Bool) (c : Cell) : VP := rTr ((k4 dO dI c).map V.int)
theorem ca_sort4 {X : Cx} {W : Ow} {k : Nat} (dO dI : Bool) (hr : Room k X.A) (cs : List Cell) : CaD X W (.builtin "sorted") [rLi X.K (cs.map (r4 dO dI))] (rLi X.K ((cs.mergeSort (leR dO dI)).map (r4 dO dI))) := by
  have := ca_sortD (X := X) (W := W) cs (r4 dO dI) (fun c => PyData.tuple ((k4 dO dI c).map .int)) hr (fun c _ => dt_tr) (PySem.W.AllAlike.of fun b b' => by simp [k4, PySem.W.alike, PySem.W.alikeAll]) (PySem.W.Sortable.tuples fun b => ⟨_, _, rfl⟩) (fun b _ => by simp [k4, PyData.depth, PyData.depthAll])
  rw [dataLe_k4] at this
  exact this
theorem sc_orbit_rounds : FnScope ["nest", "size", "cells", "found", "i", "j", "first", "then"] ["nest", "size", "cells"] (defScope (top 65)) := ⟨rfl, rfl, rfl, by decide +kernel, rfl, by decide +kernel, by decide +kernel⟩
theorem fn_orbit_rounds (T : Tx K w mg A) {N : LN} {n : Int} {cs : List Cell} (hN : N.ok) (hz : cs.length ≤ 8) : FnG P w K mg base "orbit_rounds" 4 [rN K A N, is (.int n), rTf K (cs.map rC)] [] [] (rLi K ((rds N n cs).map rC)) :=
  fng_of T.d_orbit_rounds sc_orbit_rounds rfl (fun _ _ _ _ _ _ us hl => match us, hl with | [_, _, _], _ => rfl) fun f cdv Ar outer s H E hr => by
  -- found = []
  refine dss_setN 3 (dn_lst da_nil) (fun q => ?_) sc_orbit_rounds.nd
  let fl : Cell → Bool := fun c => inL N.o n 0 c.1 && inL N.i n c.1 c.2
  -- for i, j in cells:
  refine dss_forM (xs := cs) (p := rC) (up := fun c G => (G.set 4 (some (is (.int c.1)))).set 5 (some (is (.int c.2)))) (Iv := fun m G W => (∃ o4 o5, G = [some (rN K A N), some (is (.int n)), some (rTf K (cs.map rC)), some (is (.ref q)), o4, o5, none, none]) ∧ W = [(q, oLi (((cs.take m).filter fl).map (r4 N.o.d N.i.d)))]) (di_tup (de_to (de_var 2) fun v H b => tf_tu b)) (fun c hc => dg_tupV (dgs_cons (dg_name 4 sc_orbit_rounds.nd) (dgs_cons (dg_name 5 sc_orbit_rounds.nd) dgs_nil))) ⟨⟨_, _, rfl⟩, rfl⟩ (fun m c G1 W1 hc hI => ?_) (fun G1 W1 hI => ?_)
  · obtain ⟨⟨o4, o5, rfl⟩, rfl⟩ := hI
    -- if in_loop(nest.over, size, None, i) and in_loop(nest.below, size, i, j):
    refine dss_when (k := fl c) (dt_of (dw_and (dt_val (de_call (fn_in_loop T (i := 0) (.inl hN.1)) hr (da_cons (de_fld 0 T.c_Nest T.na_Nest_over (de_var 0)) (da_cons (de_var 1) (da_cons de_non (da_cons (de_var 4) da_nil)))))) fun _ => (dw_and1 (dt_val (de_call (fn_in_loop T (i := c.1) (.inr ⟨hN.2.1, rfl⟩)) hr (da_cons (de_fld 1 T.c_Nest T.na_Nest_below (de_var 0)) (da_cons (de_var 1) (da_cons (de_var 4) (da_cons (de_var 5) da_nil))))))))) (fun hf => ?_) (fun hf => ?_)
    · -- found.append((-i if goes_down(nest.over) else i, -j if goes_down(nest.below) else j, i, j))
      have l1 : (((cs.take m).filter fl).map (r4 N.o.d N.i.d)).length < 100000 := by
        rw [List.length_map]
        have := List.length_filter_le fl (cs.take m)
        have := List.length_take_le' m cs
        omega
      refine dss_expr (P := is .non) (dx_append1 (P := r4 N.o.d N.i.d c) (de_var 3) (de_tupV [.int (sg N.o.d c.1), .int (sg N.i.d c.2), .int c.1, .int c.2] (da_cons (de_eq (de_if (P := is (.int (sg N.o.d c.1))) (dt_val (de_call (fn_goes_down T hN.1 (by decide)) hr (da_cons (de_fld 0 T.c_Nest T.na_Nest_over (de_var 0)) da_nil))) (fun h => de_eq (de_neg (de_var 4)) (by rw [sg, if_pos h])) (fun h => de_eq (de_var 4) (by rw [sg, h]; rfl))) rfl) (da_cons (de_eq (de_if (P := is (.int (sg N.i.d c.2))) (dt_val (de_call (fn_goes_down T hN.2.1 (by decide)) hr (da_cons (de_fld 1 T.c_Nest T.na_Nest_below (de_var 0)) da_nil))) (fun h => de_eq (de_neg (de_var 5)) (by rw [sg, if_pos h])) (fun h => de_eq (de_var 5) (by rw [sg, h]; rfl))) rfl) (da_cons (de_var 4) (da_cons (de_var 5) da_nil))))) l1) (dss_nil (dss_nil ?_))
      refine ⟨⟨_, _, rfl⟩, ?_⟩
      rw [List.take_succ, hc, List.filter_append, List.map_append]
      have : ([c].filter fl) = [c] := by simp [hf]
      show [(q, oLi (_ ++ [r4 N.o.d N.i.d c]))] = [(q, oLi (_ ++ (([c].filter fl).map (r4 N.o.d N.i.d))))]
      rw [this]
      rfl
    · refine dss_nil ⟨⟨_, _, rfl⟩, ?_⟩
      rw [List.take_succ, hc, List.filter_append, List.map_append]
      have : ([c].filter fl) = [] := by simp [hf]
      show _ = [(q, oLi (_ ++ (([c].filter fl).map (r4 N.o.d N.i.d))))]
      rw [this, List.map_nil, List.append_nil]
  · obtain ⟨⟨o4, o5, rfl⟩, rfl⟩ := hI
    rw [List.take_length]
    refine dss_freeL 3 ?_
    -- return [(i, j) for first, then, i, j in sorted(found)]
    exact dss_ret (de_lcA (own := [("first", 6), ("then", 7), ("i", 4), ("j", 5)]) (js := [6, 7, 4, 5]) (xs := rds N n cs) (p := r4 N.o.d N.i.d) (r := rC) (up := fun c G => (((G.set 6 (some (is (.int (sg N.o.d c.1))))).set 7 (some (is (.int (sg N.i.d c.2))))).set 4 (some (is (.int c.1)))).set 5 (some (is (.int c.2)))) sc_orbit_rounds.nd (di_list (de_bi (ca_sort4 N.o.d N.i.d hr _) T.n_sorted boot_sorted (da_cons (de_var 3) da_nil))) (blk_of (by kernel_rfl)) (by simp) (by
      have := List.length_filter_le fl cs
      have h2 : (rds N n cs).length = (cs.filter fl).length := (List.mergeSort_perm _ _).length_eq
      omega) (fun s H C cl fp x hx => (dg_tupV (dgs_cons (dg_name 6 sc_orbit_rounds.nd) (dgs_cons (dg_name 7 sc_orbit_rounds.nd) (dgs_cons (dg_name 4 sc_orbit_rounds.nd) (dgs_cons (dg_name 5 sc_orbit_rounds.nd) dgs_nil)))))) (fun s H C cl fp x hx => (de_tupV [.int x.1, .int x.2] (da_cons (de_var 4) (da_cons (de_var 5) da_nil))))) (rt_same)
end
end
end SQ
end
section
set_option maxHeartbeats 400000
namespace SQ
open PySem PySem.Spec PyProof.Rows L2 StX ClX
noncomputable section
/-! all rounds of all nests -/
def efD {α : Type} (mt jn : α → α → α) (d : α) (cs : List Cell) (n : Int) (c : Cell) (Ds : List LD) (vs : List α) : List α := Ds.foldl (fun vs D => ddo mt jn d D cs n c.1 c.2 vs) vs
def efC {α : Type} (mt jn : α → α → α) (d : α) (cs : List Cell) (n : Int) (Ds : List LD) (rs : List Cell) (vs : List α) : List α := rs.foldl (fun vs c => efD mt jn d cs n c Ds vs) vs
def efN {α : Type} (mt jn : α → α → α) (d : α) (cs : List Cell) (n : Int) (Ns : List LN) (vs : List α) : List α := Ns.foldl (fun vs N => efC mt jn d cs n N.ds (rds N n cs) vs) vs
theorem ddo_len {α : Type} (mt jn : α → α → α) (d : α) (D : LD) (cs : List Cell) (n i j : Int) (vs : List α) : (ddo mt jn d D cs n i j vs).length = vs.length := by
  unfold ddo
  by_cases h : D.gd.v n i j = true
  · rw [if_pos h, stp_len]
  · rw [if_neg h]
theorem efD_len {α : Type} (mt jn : α → α → α) (d : α) (cs : List Cell) (n : Int) (c : Cell) : ∀ (Ds : List LD) (vs : List α), (efD mt jn d cs n c Ds vs).length = vs.length
  | [], _ => rfl
  | D :: Ds, vs => (efD_len mt jn d cs n c Ds _).trans (ddo_len ..)
theorem efC_len {α : Type} (mt jn : α → α → α) (d : α) (cs : List Cell) (n : Int) (Ds : List LD) : ∀ (rs : List Cell) (vs : List α), (efC mt jn d cs n Ds rs vs).length = vs.length
  | [], _ => rfl
  | c :: rs, vs => (efC_len mt jn d cs n Ds rs _).trans (efD_len ..)
theorem efN_len {α : Type} (mt jn : α → α → α) (d : α) (cs : List Cell) (n : Int) : ∀ (Ns : List LN) (vs : List α), (efN mt jn d cs n Ns vs).length = vs.length
  | [], _ => rfl
  | N :: Ns, vs => (efN_len mt jn d cs n Ns _).trans (efC_len ..)
theorem efD_snoc {α : Type} {mt jn : α → α → α} {d : α} {cs : List Cell} {n : Int} {c : Cell} {Ds : List LD} {m : Nat} {D : LD} {vs : List α} (h : Ds[m]? = some D) : efD mt jn d cs n c (Ds.take (m + 1)) vs = ddo mt jn d D cs n c.1 c.2 (efD mt jn d cs n c (Ds.take m) vs) := by
  unfold efD
  rw [List.take_succ, h, List.foldl_append]
  rfl
theorem efC_snoc {α : Type} {mt jn : α → α → α} {d : α} {cs : List Cell} {n : Int} {Ds : List LD} {rs : List Cell} {m : Nat} {c : Cell} {vs : List α} (h : rs[m]? = some c) : efC mt jn d cs n Ds (rs.take (m + 1)) vs = efD mt jn d cs n c Ds (efC mt jn d cs n Ds (rs.take m) vs) := by
  unfold efC
  rw [List.take_succ, h, List.foldl_append]
  rfl
theorem efN_snoc {α : Type} {mt jn : α → α → α} {d : α} {cs : List Cell} {n : Int} {Ns : List LN} {m : Nat} {N : LN} {vs : List α} (h : Ns[m]? = some N) : efN mt jn d cs n (Ns.take (m + 1)) vs = efC mt jn d cs n N.ds (rds N n cs) (efN mt jn d cs n (Ns.take m) vs) := by
  unfold efN
  rw [List.take_succ, h, List.foldl_append]
  rfl
def stA (c : Nat) : List Int := (List.range c).map (stT c)
/-- the moves -/
def mov (Ns : List LN) (n : Int) (cs : List Cell) : List Int := mvs (efN Builtin.bitAnd Builtin.bitOr 0 cs n Ns (stA cs.length))
section
variable {P : Program} {w : World} {K : PySem.W.Frag} {mg : Str → Option Value} {base : Heap} {A : Ad}
theorem sc_effect_on : FnScope ["program", "size", "cell", "cells", "content", "nest", "i", "j", "deed", "image"] ["program", "size", "cell"] (defScope (top 70)) := ⟨rfl, rfl, rfl, by decide +kernel, rfl, by decide +kernel, by decide +kernel⟩
theorem fn_effect_on (T : Tx K w mg A) {Ns : List LN} {n : Int} {c : Cell} (hN : ∀ N ∈ Ns, LN.ok N) (h : 0 ≤ c.1 ∧ c.1 < n ∧ 0 ≤ c.2 ∧ c.2 < n) (him : ∀ x ∈ orb n c.1 c.2, ∀ s, s < 8 → im n x.1 x.2 s ∈ orb n c.1 c.2) (hz : (orb n c.1 c.2).length ≤ 8) :
    FnG P w K mg base "effect_on" 5 [rP K A Ns, is (.int n), rC c] [] [] (rTu K ((mov Ns n (orb n c.1 c.2)).map rI)) :=
  fng_of T.d_effect_on sc_effect_on rfl (fun _ _ _ _ _ _ us hl => match us, hl with | [_, _, _], _ => rfl) fun f cdv Ar outer s H E hr => by
  obtain ⟨fm, hfm, _⟩ := (fn_meet_rows (P := P) (base := base) T (x := 0) (y := 0)).ex
  obtain ⟨fj, hfj, _⟩ := (fn_join_rows (P := P) (base := base) T (x := 0) (y := 0)).ex
  have nd := orb_nd n c.1 c.2
  generalize hcs : orb n c.1 c.2 = cs at *
  -- cells = images_of(size, cell)
  refine dss_set 3 (P := rTf K (cs.map rC)) (de_eq (de_call (fn_images_of T h) hr (da_cons (de_var 1) (da_cons (de_var 2) da_nil))) (by rw [hcs])) ?_ sc_effect_on.nd
  have ez : ∀ vs : List Int, oDi ((cs.map ck).zip (vs.map rI)) = oDi (dz cs vs) := fun vs => rfl
  -- content = dict(zip(cells, starts(len(cells))))
  refine dss_setN 4 (dn_dictZip (Qs := (stA cs.length).map rI) (cs.map ck) hr T.n_dict T.n_zip (de_eq (de_to (de_var 3) fun v H b => tf_tu b) (by rw [List.map_map]; rfl)) (de_eq (de_call (fn_starts T hz) hr (da_cons (de_eq (de_bi ca_lenT T.n_len boot_len (da_cons (de_to (de_var 3) fun v H b => tf_tu b) da_nil)) (by rw [List.length_map])) da_nil)) (by unfold stA; rw [List.map_map]; rfl)) (ck_nodup nd) (by simp [stA]) (by rw [List.length_map]; omega)) (fun q => ?_) sc_effect_on.nd
  rw [ez]
  have l0 : ∀ Ns', (efN Builtin.bitAnd Builtin.bitOr 0 cs n Ns' (stA cs.length)).length = cs.length := fun Ns' => by rw [efN_len, stA, List.length_map, List.length_range]
  -- for nest in program.parts:
  refine dss_forM (xs := Ns) (p := rN K A) (up := fun N G => G.set 5 (some (rN K A N))) (Iv := fun t G W => (∃ o5 o6 o7 o8, G = [some (rP K A Ns), some (is (.int n)), some (rC c), some (rTf K (cs.map rC)), some (is (.ref q)), o5, o6, o7, o8, none]) ∧ W = [(q, oDi (dz cs (efN Builtin.bitAnd Builtin.bitOr 0 cs n (Ns.take t) (stA cs.length))))]) (di_tup (de_fld 0 T.c_Program T.na_Program_parts (de_var 0))) (fun N hN => (dg_name 5 sc_effect_on.nd)) ⟨⟨_, _, _, _, rfl⟩, rfl⟩ (fun t N G1 W1 hNt hI => ?_) (fun G1 W1 hI => ?_)
  · obtain ⟨⟨o5, o6, o7, o8, rfl⟩, rfl⟩ := hI
    have oN := hN N (List.mem_of_getElem? hNt)
    have e0 := efN_snoc (mt := Builtin.bitAnd) (jn := Builtin.bitOr) (d := 0) (cs := cs) (n := n) (vs := stA cs.length) hNt
    have lv := l0 (Ns.take t)
    generalize efN Builtin.bitAnd Builtin.bitOr 0 cs n (Ns.take t) (stA cs.length) = vs at *
    -- for i, j in orbit_rounds(nest, size, cells):
    refine dss_forM (xs := rds N n cs) (p := rC) (up := fun x G => (G.set 6 (some (is (.int x.1)))).set 7 (some (is (.int x.2)))) (Iv := fun t G W => (∃ o6 o7 o8, G = [some (rP K A Ns), some (is (.int n)), some (rC c), some (rTf K (cs.map rC)), some (is (.ref q)), some (rN K A N), o6, o7, o8, none]) ∧ W = [(q, oDi (dz cs (efC Builtin.bitAnd Builtin.bitOr 0 cs n N.ds ((rds N n cs).take t) vs)))]) (di_list (de_call (fn_orbit_rounds T oN hz) hr (da_cons (de_var 5) (da_cons (de_var 1) (da_cons (de_var 3) da_nil))))) (fun x hx => (dg_tupV (dgs_cons (dg_name 6 sc_effect_on.nd) (dgs_cons (dg_name 7 sc_effect_on.nd) dgs_nil)))) ⟨⟨_, _, _, rfl⟩, rfl⟩ (fun t x G1 W1 hx hI => ?_) (fun G1 W1 hI => ?_)
    · obtain ⟨⟨o6, o7, o8, rfl⟩, rfl⟩ := hI
      have hxm := rds_mem (List.mem_of_getElem? hx)
      have e1 := efC_snoc (mt := Builtin.bitAnd) (jn := Builtin.bitOr) (d := 0) (cs := cs) (n := n) (Ds := N.ds) (vs := vs) hx
      have lv2 : (efC Builtin.bitAnd Builtin.bitOr 0 cs n N.ds ((rds N n cs).take t) vs).length = cs.length := by rw [efC_len, lv]
      generalize efC Builtin.bitAnd Builtin.bitOr 0 cs n N.ds ((rds N n cs).take t) vs = vs2 at *
      -- for deed in nest.parsed:
      refine dss_forM (xs := N.ds) (p := rD K A) (up := fun D G => G.set 8 (some (rD K A D))) (Iv := fun t G W => (∃ o8, G = [some (rP K A Ns), some (is (.int n)), some (rC c), some (rTf K (cs.map rC)), some (is (.ref q)), some (rN K A N), some (is (.int x.1)), some (is (.int x.2)), o8, none]) ∧ W = [(q, oDi (dz cs (efD Builtin.bitAnd Builtin.bitOr 0 cs n x (N.ds.take t) vs2)))]) (di_list (de_fld 3 T.c_Nest T.na_Nest_parsed (de_var 5))) (fun D hD => (dg_name 8 sc_effect_on.nd)) ⟨⟨_, rfl⟩, rfl⟩ (fun t D G1 W1 hD hI => ?_) (fun G1 W1 hI => ?_)
      · obtain ⟨⟨o8, rfl⟩, rfl⟩ := hI
        have e2 := efD_snoc (mt := Builtin.bitAnd) (jn := Builtin.bitOr) (d := 0) (cs := cs) (n := n) (c := x) (vs := vs2) hD
        have lv3 : (efD Builtin.bitAnd Builtin.bitOr 0 cs n x (N.ds.take t) vs2).length = cs.length := by rw [efD_len, lv2]
        generalize efD Builtin.bitAnd Builtin.bitOr 0 cs n x (N.ds.take t) vs2 = vs3 at *
        -- do_deed(deed, size, i, j, content, meet_rows, join_rows)
        refine dss_expr (P := is .non) (dx_call (W1 := [(q, oDi (dz cs (ddo Builtin.bitAnd Builtin.bitOr 0 D cs n x.1 x.2 vs3)))]) (fn_do_deed T (fm := fm) (fj := fj) (mt := Builtin.bitAnd) (jn := Builtin.bitOr) (q := q) (cs := cs) (vs := vs3) (oN.2.2.1 D (List.mem_of_getElem? hD)) nd lv3.symm hz (him x hxm) (fun a b => (fn_meet_rows T).v hfm) (fun a b => (fn_join_rows T).v hfj)) hr (da_cons (de_var 8) (da_cons (de_var 1) (da_cons (de_var 6) (da_cons (de_var 7) (da_cons (de_var 4) (da_cons (de_gc hfm) (da_cons (de_gc hfj) da_nil))))))) (fun _ h => h) (by simp) rfl rfl (fun _ _ _ _ _ a C h => .inl h)) (dss_nil ⟨⟨_, rfl⟩, ?_⟩)
        rw [e2]
      · obtain ⟨⟨o8, rfl⟩, rfl⟩ := hI
        refine dss_nil ⟨⟨_, _, _, rfl⟩, ?_⟩
        rw [e1, List.take_length]
    · obtain ⟨⟨o6, o7, o8, rfl⟩, rfl⟩ := hI
      refine dss_nil ⟨⟨_, _, _, _, rfl⟩, ?_⟩
      rw [e0, List.take_length]
  · obtain ⟨⟨o5, o6, o7, o8, rfl⟩, rfl⟩ := hI
    have lv := l0 (Ns.take Ns.length)
    rw [List.take_length] at *
    have em : mov Ns n cs = mvs (efN Builtin.bitAnd Builtin.bitOr 0 cs n Ns (stA cs.length)) := rfl
    rw [em]
    generalize efN Builtin.bitAnd Builtin.bitOr 0 cs n Ns (stA cs.length) = vs at *
    have ge : cs.map (fun x => rI (vs.getD (cs.idxOf x) 0)) = vs.map rI := by
      apply List.ext_getElem?
      intro i
      rw [List.getElem?_map, List.getElem?_map]
      by_cases hi : i < cs.length
      · have hi2 : i < vs.length := by omega
        rw [List.getElem?_eq_getElem hi, List.getElem?_eq_getElem hi2, Option.map_some, Option.map_some, nd.idxOf_getElem i hi, List.getD_eq_getElem?_getD, List.getElem?_eq_getElem hi2]
        rfl
      · rw [List.getElem?_eq_none (by omega), List.getElem?_eq_none (by omega)]
        rfl
    have idx : ∀ x ∈ cs, cs[cs.idxOf x]? = some x := fun x hx => by
      rw [List.getElem?_eq_getElem (List.idxOf_lt_length_iff.mpr hx), List.getElem_idxOf]
    -- return moves_from([content[image] for image in cells])
    refine dss_ret (de_call (fn_moves_from T (ts := vs) (by omega)) hr (da_cons (de_eq (de_lcA (own := [("image", 9)]) (js := [9]) (xs := cs) (p := rC) (r := fun x => rI (vs.getD (cs.idxOf x) 0)) (up := fun x G => G.set 9 (some (rC x))) sc_effect_on.nd (di_tup (de_to (de_var 3) fun v H b => tf_tu b)) (blk_of (by kernel_rfl)) (by simp) (by omega) (fun s H C cl fp x hx => (dg_name 9 sc_effect_on.nd)) (fun s H C cl fp x hx => (de_dgetO (ky := ck x) hr List.mem_cons_self (de_var 4) (de_var 9) (lk_dz nd lv.symm (idx x hx))))) (by rw [ge]; rfl)) da_nil)) (rt_free fun _ _ h => h)
end
end
end SQ
end
section
set_option maxHeartbeats 400000
namespace SQ
/-! a thing done again and again -/
def itr {α : Type} (f : α → α) : Nat → α → α
  | 0, x => x
  | n + 1, x => f (itr f n x)
theorem itr_add {α : Type} {f : α → α} {x : α} : ∀ m n : Nat, itr f (m + n) x = itr f m (itr f n x)
  | 0, n => by rw [Nat.zero_add]; rfl
  | m + 1, n => by
    rw [Nat.succ_add]
    show f (itr f (m + n) x) = f (itr f m (itr f n x))
    rw [itr_add m n]
theorem itr_per {α : Type} {f : α → α} {x : α} {b d : Nat} (h : itr f (b + d) x = itr f b x) (m : Nat) : itr f (b + m + d) x = itr f (b + m) x := by
  rw [show b + m + d = m + (b + d) from by omega, itr_add, h, ← itr_add, Nat.add_comm m b]
theorem itr_mod {α : Type} {f : α → α} {x : α} {b d : Nat} (hd : 0 < d) (h : itr f (b + d) x = itr f b x) : ∀ m : Nat, itr f (b + m) x = itr f (b + m % d) x := by
  intro m
  induction m using Nat.strongRecOn with
  | _ m ih =>
    by_cases hm : m < d
    · rw [Nat.mod_eq_of_lt hm]
    · have e : b + m = b + (m - d) + d := by omega
      rw [e, itr_per h, ih (m - d) (by omega), Nat.mod_eq_sub_mod (by omega : m ≥ d)]
theorem itr_cyc {α : Type} {f : α → α} {x : α} {b k p : Nat} (hb : b < k) (hp : b ≤ p) (h : itr f k x = itr f b x) : itr f p x = itr f (b + (p - b) % (k - b)) x := by
  have := itr_mod (f := f) (x := x) (b := b) (d := k - b) (by omega) (by rw [show b + (k - b) = k from by omega]; exact h) (p - b)
  rw [show b + (p - b) = p from by omega] at this
  exact this
/-- the way -/
def way {α : Type} (f : α → α) (x : α) (k : Nat) : List α := (List.range k).map fun i => itr f i x
theorem way_len {α : Type} {f : α → α} {x : α} {k : Nat} : (way f x k).length = k := by
  unfold way
  rw [List.length_map, List.length_range]
theorem way_at {α : Type} {f : α → α} {x : α} {k i : Nat} (h : i < k) : (way f x k)[i]? = some (itr f i x) := by
  unfold way
  rw [List.getElem?_map, List.getElem?_range h]
  rfl
theorem way_snoc {α : Type} {f : α → α} {x : α} {k : Nat} : way f x (k + 1) = way f x k ++ [itr f k x] := by
  unfold way
  rw [List.range_succ, List.map_append]
  rfl
theorem way_nd {α : Type} {f : α → α} {x : α} {k : Nat} (h : (way f x k).Nodup) (hn : ¬ itr f k x ∈ way f x k) : (way f x (k + 1)).Nodup := by
  rw [way_snoc]
  refine List.nodup_append.mpr ⟨h, by simp, fun a ha b hb e => ?_⟩
  rw [List.mem_singleton.mp hb] at e
  subst e
  exact hn ha
theorem nodup_le {α : Type} [DecidableEq α] : ∀ {l m : List α}, l.Nodup → (∀ x ∈ l, x ∈ m) → l.length ≤ m.length
  | [], _, _, _ => Nat.zero_le _
  | a :: l, m, nd, h => by
    have ha := h a List.mem_cons_self
    have := nodup_le (l := l) (m := m.erase a) (List.nodup_cons.mp nd).2 fun x hx => by
      refine (List.mem_erase_of_ne ?_).mpr (h x (List.mem_cons_of_mem _ hx))
      rintro rfl
      exact (List.nodup_cons.mp nd).1 hx
    rw [List.length_erase_of_mem ha] at this
    have h0 : 0 < m.length := List.length_pos_of_mem ha
    rw [List.length_cons]
    omega
def mvf (ms : List Int) (x : Int) : Int := ms.getD x.toNat 0
def MvOk (ms : List Int) : Prop := ∀ y ∈ ms, 0 ≤ y ∧ y < ms.length
theorem mvf_in {ms : List Int} (h : MvOk ms) {x : Int} (h1 : x < ms.length) (h2 : 0 ≤ x) : 0 ≤ mvf ms x ∧ mvf ms x < ms.length := by
  unfold mvf
  have : x.toNat < ms.length := by omega
  rw [List.getD_eq_getElem?_getD, List.getElem?_eq_getElem this]
  exact h _ (List.getElem_mem this)
theorem itr_in {ms : List Int} (h : MvOk ms) {x : Int} (h1 : x < ms.length) (h2 : 0 ≤ x) : ∀ k, 0 ≤ itr (mvf ms) k x ∧ itr (mvf ms) k x < ms.length
  | 0 => ⟨h2, h1⟩
  | k + 1 => let q := itr_in h h1 h2 k; mvf_in h q.2 q.1
theorem way_le {ms : List Int} (h : MvOk ms) {x : Int} (h1 : x < ms.length) (h2 : 0 ≤ x) {k : Nat} (nd : (way (mvf ms) x k).Nodup) : k ≤ ms.length := by
  have := nodup_le (m := (List.range ms.length).map fun (i : Nat) => (i : Int)) nd fun y hy => by
    obtain ⟨i, hi, rfl⟩ := List.mem_map.mp hy
    have q := itr_in h h1 h2 i
    exact List.mem_map.mpr ⟨(itr (mvf ms) i x).toNat, List.mem_range.mpr (by omega), by omega⟩
  rwa [way_len, List.length_map, List.length_range] at this
/-- done so many times -/
def rep (ms : List Int) (p : Nat) : List Int := (List.range ms.length).map fun (c : Nat) => itr (mvf ms) p c
def bitN (x : Int) (e : Nat) : Int := x / 2 ^ e % 2
def bts (x : Int) : List Nat := (List.range 8).filter fun k => decide (bitN x k = 1)
def lcT (ms : List Int) (e : Nat) (c : Nat) : Bool := decide (bitN (mvf ms c) e = 1) && (bts c).all fun k => decide (bitN (mvf ms ((c - 2 ^ k : Nat) : Int)) e = 0)
def lcs (ms : List Int) (e : Nat) : List Nat := (List.range ms.length).filter (lcT ms e)
def rbF (ms : List Int) (e : Nat) (m : Nat) : Int := (List.range m).foldl (fun acc (c : Nat) => if bitN c e = 0 then PySem.Builtin.bitOr acc (PySem.Builtin.bitXor (mvf ms c) (mvf ms (c + 2 ^ e))) else acc) 0
end SQ
end
section
set_option maxHeartbeats 400000
namespace SQ
open PySem PySem.Spec PyProof.Rows L2 StX ClX
noncomputable section
theorem flat_ints : ∀ xs : List Int, (xs.map V.int).all flatV = true
  | [] => rfl
  | x :: xs => by rw [List.map_cons, List.all_cons, flat_ints xs]; rfl
theorem inV_ints {x : Int} : ∀ {xs : List Int}, inV (.int x) (xs.map V.int) = decide (x ∈ xs)
  | [] => by simp [inV]
  | y :: xs => by
    have ih := inV_ints (x := x) (xs := xs)
    unfold inV at ih ⊢
    rw [List.map_cons, List.any_cons, ih]
    have e : eqV (.int y) (.int x) = (y == x) := rfl
    rw [e]
    by_cases h : y = x
    · subst h; simp
    · have h2 : ¬ x = y := fun z => h z.symm
      simp [h, h2]
theorem map_int_is (xs : List Int) : (xs.map rI) = (xs.map V.int).map is := by rw [List.map_map]; rfl
theorem at_mvf {ms : List Int} {i : Int} (h1 : i < ms.length) (h2 : 0 ≤ i) : atI (ms.map rI) i = some (rI (mvf ms i)) := by
  have : i.toNat < ms.length := by omega
  refine atI_k i.toNat ?_ (by omega)
  rw [List.getElem?_map, List.getElem?_eq_getElem this]
  unfold mvf
  rw [List.getD_eq_getElem?_getD, List.getElem?_eq_getElem this]
  rfl
section
variable {P : Program} {w : World} {K : PySem.W.Frag} {mg : Str → Option Value} {base : Heap} {A : Ad}
theorem sc_content_after : FnScope ["moves", "power", "content", "way", "last", "begin"] ["moves", "power", "content"] (defScope (top 71)) := ⟨rfl, rfl, rfl, by decide +kernel, rfl, by decide +kernel, by decide +kernel⟩
theorem fn_content_after (T : Tx K w mg A) {ms : List Int} {p : Nat} {x : Int} (hm : MvOk ms) (hl : ms.length ≤ 256) (h1 : x < ms.length) (h2 : 0 ≤ x) : FnG P w K mg base "content_after" 1 [rTu K (ms.map rI), is (.int p), is (.int x)] [] [] (is (.int (itr (mvf ms) p x))) :=
  fng_of T.d_content_after sc_content_after rfl (fun _ _ _ _ _ _ us hl => match us, hl with | [_, _, _], _ => rfl) fun f cdv Ar outer s H E hr => by
  -- way = []
  refine dss_setN 3 (dn_lst da_nil) (fun q => ?_) sc_content_after.nd
  -- last = content
  refine dss_set 4 (de_var 2) ?_ sc_content_after.nd
  have ew : ∀ k, oLi ((way (mvf ms) x k).map rI) = oLi (((way (mvf ms) x k).map V.int).map is) := fun k => by rw [map_int_is]
  have after : ∀ k : Nat, k ≤ p → (way (mvf ms) x k).Nodup → (itr (mvf ms) k x ∈ way (mvf ms) x k ∨ ¬ k < p) → DSs (Xb P w K mg base ["moves", "power", "content", "way", "last", "begin"] "content_after" (defScope (top 71)) f cdv Ar outer s H E) [some (rTu K (ms.map rI)), some (is (.int p)), some (is (.int x)), some (is (.ref q)), some (is (.int (itr (mvf ms) k x))), none] [(q, oLi ((way (mvf ms) x k).map rI))] ((defBody (top 71)).drop 3) (retD (is (.int (itr (mvf ms) p x))) []) := by
    intro k hk nd hor
    have hlen : (way (mvf ms) x k).length = k := way_len
    -- if len(way) < power:
    refine dss_if (k := decide (k < p)) (dt_eq (dt_cmp od_lt (de_lenO List.mem_cons_self T.n_len (da_cons (de_var 3) da_nil)) (de_var 1)) (by rw [List.length_map, hlen]; simp)) (fun hc => ?_) (fun hc => ?_)
    · have hc := of_decide_eq_true hc
      have hin : itr (mvf ms) k x ∈ way (mvf ms) x k := hor.elim id fun z => absurd hc z
      obtain ⟨b, hb, hbe⟩ := List.mem_map.mp hin
      have hb := List.mem_range.mp hb
      refine dss_freeL 3 ?_
      -- begin = way.index(last)
      refine dss_set 5 (P := is (.int b)) (de_lindex (x := .int (itr (mvf ms) k x)) (xs := (way (mvf ms) x k).map V.int) (z := .int (itr (mvf ms) b x)) b rfl (flat_ints _) (by rw [List.getElem?_map, way_at hb]; rfl) (by rw [hbe]; exact beq_self_eq_true (itr (mvf ms) k x)) (fun m z hm hz => ?_) (de_eq (P := rLi K ((way (mvf ms) x k).map rI)) (de_var 3) (by rw [map_int_is]; rfl)) (de_var 4)) ?_ sc_content_after.nd
      · rw [List.getElem?_map, way_at (by omega)] at hz
        cases hz
        show (itr (mvf ms) m x == itr (mvf ms) k x) = false
        rw [beq_eq_false_iff_ne, ← hbe]
        intro e
        have a1 : (way (mvf ms) x k)[m]'(by omega) = itr (mvf ms) m x := by
          have := way_at (f := mvf ms) (x := x) (k := k) (i := m) (by omega)
          rw [List.getElem?_eq_getElem (by omega)] at this
          exact Option.some.inj this
        have a2 : (way (mvf ms) x k)[b]'(by omega) = itr (mvf ms) b x := by
          have := way_at (f := mvf ms) (x := x) (k := k) (i := b) (by omega)
          rw [List.getElem?_eq_getElem (by omega)] at this
          exact Option.some.inj this
        have i1 := nd.idxOf_getElem m (by omega)
        have i2 := nd.idxOf_getElem b (by omega)
        rw [a1] at i1
        rw [a2, ← e] at i2
        have := i1.symm.trans i2
        omega
      -- last = way[begin + int(power - begin) % (len(way) - begin)]
      have hd : ((b : Int) + ((p : Int) - b) % ((k : Int) - b)) = ((b + (p - b) % (k - b) : Nat) : Int) := by
        have e1 : ((p : Int) - b) = ((p - b : Nat) : Int) := by omega
        have e2 : ((k : Int) - b) = ((k - b : Nat) : Int) := by omega
        rw [e1, e2, ← Int.natCast_emod]
        omega
      have hlt : b + (p - b) % (k - b) < k := by
        have := Nat.mod_lt (p - b) (show 0 < k - b by omega)
        omega
      have hfin : itr (mvf ms) p x = itr (mvf ms) (b + (p - b) % (k - b)) x := itr_cyc hb (by omega) hbe.symm
      refine dss_set 4 (P := is (.int (itr (mvf ms) p x))) (de_ixL (de_var 3) (de_bin od_add (de_var 5) (de_bin (od_mod (j := (k : Int) - b) (by omega)) (de_ty ca_int T.n_int boot_int (da_cons (de_bin od_sub (de_var 1) (de_var 5)) da_nil)) (de_bin od_sub (de_eq (de_bi ca_lenL T.n_len boot_len (da_cons (de_var 3) da_nil)) (by rw [List.length_map, hlen])) (de_var 5)))) (atI_k (b + (p - b) % (k - b)) ?_ hd)) (dss_nil ?_) sc_content_after.nd
      · rw [List.getElem?_map, way_at hlt, ← hfin]
        rfl
      exact dss_ret (de_var 4) rt_same
    · have hc := of_decide_eq_false hc
      have e : k = p := by omega
      subst e
      refine dss_nil ?_
      exact dss_ret (de_var 4) (rt_free fun _ _ h => h)
  -- while last not in way and len(way) < power:
  refine dss_while (m0 := p) (Iv := fun m G W => ∃ k : Nat, m + k = p ∧ (way (mvf ms) x k).Nodup ∧ G = [some (rTu K (ms.map rI)), some (is (.int p)), some (is (.int x)), some (is (.ref q)), some (is (.int (itr (mvf ms) k x))), none] ∧ W = [(q, oLi ((way (mvf ms) x k).map rI))]) ⟨0, rfl, List.nodup_nil, rfl, rfl⟩ fun m G1 W1 ⟨k, hk, nd, hG, hW⟩ => ?_
  subst hG
  subst hW
  have hlen : (way (mvf ms) x k).length = k := way_len
  have hkl := way_le hm h1 h2 nd
  refine ⟨!decide (itr (mvf ms) k x ∈ way (mvf ms) x k) && decide (k < p), dt_of (dw_and (dt_eq (dt_cmp (od_notInO (q := q) (xs := (way (mvf ms) x k).map V.int) (by rw [← map_int_is]; exact List.mem_cons_self) rfl (flat_ints _)) (de_var 4) (de_var 3)) (by rw [inV_ints])) fun _ => (dw_and1 (dt_eq (dt_cmp od_lt (de_lenO List.mem_cons_self T.n_len (da_cons (de_var 3) da_nil)) (de_var 1)) (by rw [List.length_map, hlen]; simp)))), fun hc => ?_, fun hc => ?_⟩
  · simp only [Bool.and_eq_true, Bool.not_eq_true', decide_eq_true_eq, decide_eq_false_iff_not] at hc
    -- way.append(last)
    refine dss_expr (P := is .non) (dx_append1 (P := rI (itr (mvf ms) k x)) (de_var 3) (de_var 4) (by rw [List.length_map, hlen]; omega)) ?_
    have q := itr_in hm h1 h2 k
    -- last = moves[last]
    refine dss_set 4 (de_ixT (de_var 0) (de_var 4) (at_mvf q.2 q.1)) (dss_nil ?_) sc_content_after.nd
    refine ⟨m - 1, by omega, k + 1, by omega, way_nd nd hc.1, rfl, ?_⟩
    rw [way_snoc, List.map_append]
    rfl
  · refine after k (by omega) nd ?_
    by_cases h : itr (mvf ms) k x ∈ way (mvf ms) x k
    · exact .inl h
    · refine .inr fun z => ?_
      simp [h, z] at hc
theorem sc_repeated : FnScope ["moves", "power", "content"] ["moves", "power"] (defScope (top 72)) := ⟨rfl, rfl, rfl, by decide +kernel, rfl, by decide +kernel, by decide +kernel⟩
theorem fn_repeated (T : Tx K w mg A) {ms : List Int} {p : Nat} (hm : MvOk ms) (hl : ms.length ≤ 256) : FnG P w K mg base "repeated" 2 [rTu K (ms.map rI), is (.int p)] [] [] (rTu K ((rep ms p).map rI)) :=
  fng_of T.d_repeated sc_repeated rfl (fun _ _ _ _ _ _ us hl => match us, hl with | [_, _], _ => rfl) fun f cdv Ar outer s H E hr => by
  -- return tuple([content_after(moves, power, content) for content in range(len(moves))])
  refine dss_ret (de_eq (de_ty ca_tupL T.n_tuple boot_tuple (da_cons (de_lcA (own := [("content", 2)]) (js := [2]) (xs := List.range ms.length) (p := fun (c : Nat) => is (.int (0 + (c : Nat)))) (r := fun c => rI (itr (mvf ms) p (c : Nat))) (up := fun c G => G.set 2 (some (is (.int (0 + (c : Nat)))))) sc_repeated.nd (di_range1 (n := (ms.length : Int)) T.n_range (da_cons (de_eq (de_bi ca_lenT T.n_len boot_len (da_cons (de_var 0) da_nil)) (by rw [List.length_map])) da_nil) (by omega)) (blk_of (by kernel_rfl)) (by simp) (by rw [List.length_range]; omega) (fun s H C cl fp x hx => (dg_name 2 sc_repeated.nd)) (fun s H C cl fp x hx => ?_)) da_nil)) (by rw [rep, List.map_map]; rfl)) (rt_same)
  have hx := List.mem_range.mp hx
  have ez : (0 : Int) + (x : Nat) = (x : Nat) := by omega
  simp only [ez]
  exact (de_call (fn_content_after T hm hl (by omega) (by omega)) hr (da_cons (de_var 0) (da_cons (de_var 1) (da_cons (de_var 2) da_nil))))
theorem sc_bits_of : FnScope ["content", "k"] ["content"] (defScope (top 73)) := ⟨rfl, rfl, rfl, by decide +kernel, rfl, by decide +kernel, by decide +kernel⟩
theorem fn_bits_of (T : Tx K w mg A) {x : Int} : FnG P w K mg base "bits_of" 1 [is (.int x)] [] [] (rLi K ((bts x).map fun (k : Nat) => rI (k : Int))) :=
  fng_of T.d_bits_of sc_bits_of rfl (fun _ _ _ _ _ _ us hl => match us, hl with | [_], _ => rfl) fun f cdv Ar outer s H E hr => by
  -- return [k for k in range(8) if content >> k & 1 == 1]
  refine dss_ret (de_lcF (own := [("k", 1)]) (js := [1]) (xs := List.range 8) (p := fun (c : Nat) => is (.int (0 + (c : Nat)))) (f := fun k => decide (bitN x k = 1)) (r := fun k => rI (k : Int)) (up := fun c G => G.set 1 (some (is (.int (0 + (c : Nat)))))) sc_bits_of.nd (di_range1 (n := 8) T.n_range (da_cons de_int da_nil) (by decide)) (blk_of (by kernel_rfl)) (by simp) (by decide) (fun s H C cl fp x hx => (dg_name 1 sc_bits_of.nd)) (fun s H C cl fp k hk => ?_) (fun s H C cl fp k hk hf => ?_)) (rt_same)
  · have ez : (0 : Int) + (k : Nat) = (k : Nat) := by omega
    simp only [ez]
    exact dt_eq (dt_cmp od_eqI (de_bin od_and1 (de_bin (od_shr (i := x) (j := (k : Int)) (by omega)) (de_var 0) (de_var 1)) de_int) de_int) (by rw [Int.toNat_natCast]; rfl)
  · have ez : (0 : Int) + (k : Nat) = (k : Nat) := by omega
    simp only [ez]
    exact de_var 1
theorem sc_least_contents : FnScope ["moves", "image", "found", "content", "lesser", "k", "move"] ["moves", "image"] (defScope (top 74)) := ⟨rfl, rfl, rfl, by decide +kernel, rfl, by decide +kernel, by decide +kernel⟩
theorem fn_least_contents (T : Tx K w mg A) {ms : List Int} {e : Nat} (hl : ms.length ≤ 256) : FnG P w K mg base "least_contents" 2 [rTu K (ms.map rI), is (.int e)] [] [] (rLi K ((lcs ms e).map fun (k : Nat) => rI (k : Int))) :=
  fng_of T.d_least_contents sc_least_contents rfl (fun _ _ _ _ _ _ us hl => match us, hl with | [_, _], _ => rfl) fun f cdv Ar outer s H E hr => by
  -- found = []
  refine dss_setN 2 (dn_lst da_nil) (fun q => ?_) sc_least_contents.nd
  -- for content in range(len(moves)):
  refine dss_for (Iv := fun m G W => (∃ o3 o4, G = [some (rTu K (ms.map rI)), some (is (.int e)), some (is (.ref q)), o3, o4, none, none]) ∧ W = [(q, oLi (((List.range m).filter (lcT ms e)).map fun (k : Nat) => rI (k : Int)))]) (di_range1 (n := (ms.length : Int)) T.n_range (da_cons (de_eq (de_bi ca_lenT T.n_len boot_len (da_cons (de_var 0) da_nil)) (by rw [List.length_map])) da_nil) (by omega)) (fun P hP => (dg_name 3 sc_least_contents.nd)) ⟨⟨_, _, rfl⟩, rfl⟩ (fun m P G1 W1 hP hI => ?_) (fun G1 W1 hI => ?_)
  · obtain ⟨⟨o3, o4, rfl⟩, rfl⟩ := hI
    obtain ⟨rfl, hm⟩ := rg_at hP
    have hm : m < ms.length := hm
    have ez : (0 : Int) + (m : Nat) = (m : Nat) := by omega
    rw [ez]
    have sn : (List.range (m + 1)).filter (lcT ms e) = (List.range m).filter (lcT ms e) ++ [m].filter (lcT ms e) := by rw [List.range_succ, List.filter_append]
    -- if moves[content] >> image & 1 == 1:
    refine dss_if (k := decide (bitN (mvf ms m) e = 1)) (dt_eq (dt_cmp od_eqI (de_bin od_and1 (de_bin (od_shr (i := mvf ms m) (j := (e : Int)) (by omega)) (de_ixT (de_var 0) (de_var 3) (at_mvf (by omega) (by omega))) (de_var 1)) de_int) de_int) (by rw [Int.toNat_natCast]; rfl)) (fun hc => ?_) (fun hc => ?_)
    · have mb : ∀ k ∈ bts (m : Int), k < 8 ∧ 2 ^ k ≤ m := fun k hk => by
        have q := List.mem_filter.mp hk
        have q2 : ((m : Int) / 2 ^ k) % 2 = 1 := of_decide_eq_true q.2
        refine ⟨List.mem_range.mp q.1, Nat.not_lt.mp fun z => ?_⟩
        have z2 : (m : Int) < 2 ^ k := by
          have : ((2 : Int) ^ k) = ((2 ^ k : Nat) : Int) := by push_cast; rfl
          omega
        rw [Int.ediv_eq_zero_of_lt (by omega) z2] at q2
        cases q2
      have b1 : ∀ k, k < 8 → 0 ≤ ((k : Nat) : Int) ∧ (Builtin.Int.intBits 1 : Int) + ((k : Nat) : Int) ≤ 2 ^ 27 := by decide +kernel
      have lb : (bts (m : Int)).length ≤ 8 := List.length_filter_le _ _
      have es : ∀ k ∈ bts (m : Int), (m : Int) - 1 * 2 ^ ((k : Nat) : Int).toNat = (((m - 2 ^ k : Nat)) : Int) := fun k hk => by
        have := mb k hk
        rw [Int.toNat_natCast, Int.one_mul]
        have : ((2 : Int) ^ k) = ((2 ^ k : Nat) : Int) := by push_cast; rfl
        omega
      -- lesser = [moves[content - (1 << k)] for k in bits_of(content)]
      refine dss_setLcA 4 (own := [("k", 5)]) (js := [5]) (xs := bts (m : Int)) (p := fun (k : Nat) => rI (k : Int)) (r := fun k => rI (mvf ms ((m - 2 ^ k : Nat) : Int))) (up := fun k G => G.set 5 (some (rI (k : Int)))) sc_least_contents.nd (di_list (de_call (fn_bits_of T) hr (da_cons (de_var 3) da_nil))) (blk_of (by kernel_rfl)) (by simp) (by omega) (fun s H C cl fp x hx => (dg_name 5 sc_least_contents.nd)) (fun s H C cl fp x hx => (de_ixT (de_var 0) (de_eq (de_bin od_sub (de_var 3) (de_bin (od_shl (i := 1) (j := (x : Int)) (b1 x (mb x hx).1)) de_int (de_var 5))) (by rw [es x hx])) (at_mvf (Int.ofNat_lt.mpr (Nat.lt_of_le_of_lt (Nat.sub_le _ _) hm)) (Int.natCast_nonneg _)))) ?_
      -- if all([move >> image & 1 == 0 for move in lesser]):
      refine dss_if (k := (bts (m : Int)).all fun k => decide (bitN (mvf ms ((m - 2 ^ k : Nat) : Int)) e = 0)) (dt_eq (dt_val (de_bi (ca_all (ns := (bts (m : Int)).map fun k => decide (bitN (mvf ms ((m - 2 ^ k : Nat) : Int)) e = 0))) T.n_all boot_all (da_cons (de_eq (de_lcA (own := [("move", 6)]) (js := [6]) (xs := bts (m : Int)) (p := fun k => rI (mvf ms ((m - 2 ^ k : Nat) : Int))) (r := fun k => is (.bl (decide (bitN (mvf ms ((m - 2 ^ k : Nat) : Int)) e = 0)))) (up := fun k G => G.set 6 (some (rI (mvf ms ((m - 2 ^ k : Nat) : Int))))) sc_least_contents.nd (di_list (de_var 4)) (blk_of (by kernel_rfl)) (by simp) (by omega) (fun s H C cl fp x hx => (dg_name 6 sc_least_contents.nd)) (fun s H C cl fp x hx => de_eq (de_cmp od_eqI (de_bin od_and1 (de_bin (od_shr (i := mvf ms ((m - 2 ^ x : Nat) : Int)) (j := (e : Int)) (by omega)) (de_var 6) (de_var 1)) de_int) de_int) (by rw [Int.toNat_natCast]; rfl))) (by rw [List.map_map]; rfl)) da_nil))) (by rw [List.all_map]; rfl)) (fun hc2 => ?_) (fun hc2 => ?_)
      · -- found.append(content)
        refine dss_expr (P := is .non) (dx_append1 (P := rI (m : Int)) (de_var 2) (de_var 3) ?_) (dss_nil (dss_nil (dss_nil ?_)))
        · rw [List.length_map]
          have := List.length_filter_le (lcT ms e) (List.range m)
          rw [List.length_range] at this
          omega
        · refine ⟨⟨_, _, rfl⟩, ?_⟩
          have : lcT ms e m = true := by
            unfold lcT
            rw [hc, hc2]
            rfl
          rw [sn, List.filter_cons_of_pos this, List.map_append]
          rfl
      · refine dss_nil (dss_nil (dss_nil ⟨⟨_, _, rfl⟩, ?_⟩))
        have : ¬ lcT ms e m = true := by
          unfold lcT
          rw [hc2]
          simp
        rw [sn, List.filter_cons_of_neg this, List.filter_nil, List.append_nil]
    · refine dss_nil (dss_nil ⟨⟨_, _, rfl⟩, ?_⟩)
      have : ¬ lcT ms e m = true := by
        unfold lcT
        rw [hc]
        simp
      rw [sn, List.filter_cons_of_neg this, List.filter_nil, List.append_nil]
  · obtain ⟨⟨o3, o4, rfl⟩, rfl⟩ := hI
    rw [rg_len]
    refine dss_freeL 2 ?_
    exact dss_ret (de_var 2) rt_same
theorem sc_reached_bits : FnScope ["moves", "entry", "found", "content"] ["moves", "entry"] (defScope (top 99)) := ⟨rfl, rfl, rfl, by decide +kernel, rfl, by decide +kernel, by decide +kernel⟩
theorem bit_up {N e m : Nat} (he : e < N) (hm : m < 2 ^ N) (hb : bitN (m : Int) e = 0) : m + 2 ^ e < 2 ^ N := by
  unfold bitN at hb
  have h1 : m / 2 ^ e % 2 = 0 := by
    have e2 : ((2 : Int) ^ e) = ((2 ^ e : Nat) : Int) := by push_cast; rfl
    rw [e2] at hb
    omega
  have h2 : 2 ^ N = 2 ^ (N - e - 1) * 2 * 2 ^ e := by
    rw [← Nat.pow_succ, ← Nat.pow_add]
    congr 1
    omega
  have hp : 0 < 2 ^ e := Nat.two_pow_pos e
  have h3 : m / 2 ^ e < 2 ^ (N - e - 1) * 2 := by
    rw [Nat.div_lt_iff_lt_mul hp, ← h2]
    exact hm
  have h4 : m / 2 ^ e + 1 < 2 ^ (N - e - 1) * 2 := by omega
  have h5 : (m + 2 ^ e) / 2 ^ e < 2 ^ (N - e - 1) * 2 := by
    rw [Nat.add_div_right _ hp]
    exact h4
  rw [h2]
  exact (Nat.div_lt_iff_lt_mul hp).mp h5
theorem fn_reached_bits (T : Tx K w mg A) {ms : List Int} {N e : Nat} (hl : ms.length = 2 ^ N) (hN : N ≤ 8) (he : e < N) : FnG P w K mg base "reached_bits" 2 [rTu K (ms.map rI), is (.int e)] [] [] (rLi K ((bts (rbF ms e ms.length)).map fun (k : Nat) => rI (k : Int))) :=
  fng_of T.d_reached_bits sc_reached_bits rfl (fun _ _ _ _ _ _ us hl => match us, hl with | [_, _], _ => rfl) fun f cdv Ar outer s H E hr => by
  have b2 : ∀ k, k ≤ 8 → 2 ^ k ≤ 256 := by decide +kernel
  have b1 : ∀ k, k < 8 → 0 ≤ ((k : Nat) : Int) ∧ (Builtin.Int.intBits 1 : Int) + ((k : Nat) : Int) ≤ 2 ^ 27 := by decide +kernel
  have hl2 : ms.length ≤ 256 := hl ▸ b2 N hN
  -- found = 0
  refine dss_set 2 de_int ?_ sc_reached_bits.nd
  -- for content in range(len(moves)):
  refine dss_for (Iv := fun m G W => (∃ o3, G = [some (rTu K (ms.map rI)), some (is (.int e)), some (is (.int (rbF ms e m))), o3]) ∧ W = []) (di_range1 (n := (ms.length : Int)) T.n_range (da_cons (de_eq (de_bi ca_lenT T.n_len boot_len (da_cons (de_var 0) da_nil)) (by rw [List.length_map])) da_nil) (by omega)) (fun P hP => (dg_name 3 sc_reached_bits.nd)) ⟨⟨_, rfl⟩, rfl⟩ (fun m P G1 W1 hP hI => ?_) (fun G1 W1 hI => ?_)
  · obtain ⟨⟨o3, rfl⟩, rfl⟩ := hI
    obtain ⟨rfl, hm⟩ := rg_at hP
    have hm : m < ms.length := hm
    have ez : (0 : Int) + (m : Nat) = (m : Nat) := by omega
    rw [ez]
    have sn : rbF ms e (m + 1) = if bitN (m : Int) e = 0 then Builtin.bitOr (rbF ms e m) (Builtin.bitXor (mvf ms m) (mvf ms (m + 2 ^ e))) else rbF ms e m := by
      unfold rbF
      rw [List.range_succ, List.foldl_append]
      rfl
    -- if content >> entry & 1 == 0:
    refine dss_if (k := decide (bitN (m : Int) e = 0)) (dt_eq (dt_cmp od_eqI (de_bin od_and1 (de_bin (od_shr (i := (m : Int)) (j := (e : Int)) (by omega)) (de_var 3) (de_var 1)) de_int) de_int) (by rw [Int.toNat_natCast]; rfl)) (fun hc => ?_) (fun hc => ?_)
    · have hc := of_decide_eq_true hc
      have hup := bit_up he (hl ▸ hm) hc
      have e2 : ((2 : Int) ^ e) = ((2 ^ e : Nat) : Int) := by push_cast; rfl
      have q1 : (0 : Int) ≤ (m : Int) + 2 ^ e := by rw [e2]; exact Int.add_nonneg (Int.natCast_nonneg _) (Int.natCast_nonneg _)
      have q2 : (m : Int) + 2 ^ e < ms.length := by
        rw [e2, ← Int.natCast_add]
        exact Int.ofNat_lt.mpr (hl ▸ hup)
      -- found = found | moves[content] ^ moves[content + (1 << entry)]
      refine dss_set 2 (de_bin od_or (de_var 2) (de_bin od_xor (de_ixT (de_var 0) (de_var 3) (at_mvf (by omega) (by omega))) (de_ixT (i := (m : Int) + 2 ^ e) (de_var 0) (de_eq (de_bin od_add (de_var 3) (de_bin (od_shl (i := 1) (j := (e : Int)) (b1 e (by omega))) de_int (de_var 1))) (by rw [Int.one_mul, Int.toNat_natCast])) (at_mvf q2 q1)))) (dss_nil (dss_nil ?_)) sc_reached_bits.nd
      rw [if_pos hc] at sn
      rw [sn]
      exact ⟨⟨_, rfl⟩, rfl⟩
    · rw [if_neg (of_decide_eq_false hc)] at sn
      refine dss_nil (dss_nil ?_)
      rw [sn]
      exact ⟨⟨_, rfl⟩, rfl⟩
  · obtain ⟨⟨o3, rfl⟩, rfl⟩ := hI
    rw [rg_len]
    -- return bits_of(found)
    exact dss_ret (de_call (fn_bits_of T) hr (da_cons (de_var 2) da_nil)) (rt_same)
end
end
end SQ
end
section
set_option maxHeartbeats 400000
namespace SQ
open PySem PySem.Spec PyProof.Rows L2 StX ClX
noncomputable section
section
variable {P : Program} {w : World} {K : PySem.W.Frag} {mg : Str → Option Value} {base : Heap} {A : Ad}
theorem enP_len {K : PySem.W.Frag} {Ps : List VP} : (enP K Ps).length = Ps.length := by
  unfold enP
  rw [List.length_mapIdx]
theorem sc_Nest : FnScope ["self", "outer", "inner", "deeds", "parsed", "index", "deed", "known"] ["self", "outer", "inner", "deeds"] (defScope (inClass (top 78) 0)) := ⟨rfl, rfl, rfl, by decide +kernel, rfl, by decide +kernel, by decide +kernel⟩
theorem ini_Nest (T : Tx K w mg A) {N : LN} (h : N.ok) : IniG P w K mg base A.nest 4 ([is (.str N.o.t), is (.str N.i.t)] ++ N.ds.map fun D => is (.str D.t)) ["over", "below", "texts", "parsed"] [is (.str N.o.t), is (.str N.i.t), rTu K (N.ds.map fun D => is (.str D.t)), rLi K (N.ds.map (rD K A))] := by
  obtain ⟨f, fd, M, F⟩ := T.i_Nest
  refine ⟨f, M, fun x => fnr_star (ps := ["self", "outer", "inner"]) (pv := "deeds") (Ps := [is (.ref x), is (.str N.o.t), is (.str N.i.t)]) F sc_Nest rfl (by rw [List.length_map]; have := h.2.2.2; omega) (fun _ _ _ _ _ _ us rest hl => match us, rest, hl with | [_, _, _], [], _ => rfl | [_, _, _], _ :: _, _ => rfl) fun cdv Ar outer s H E hr => ?_⟩
  -- if not is_loop(outer, False):
  refine dss_ifF (dt_not (k := true) (dt_val (de_call (fn_is_loop T (.inl h.1)) hr (da_cons (de_var 1) (da_cons de_bl da_nil))))) ?_
  -- if not is_loop(inner, True):
  refine dss_ifF (dt_not (k := true) (dt_val (de_call (fn_is_loop T (.inr ⟨h.2.1, rfl⟩)) hr (da_cons (de_var 2) (da_cons de_bl da_nil))))) ?_
  -- parsed = []
  refine dss_setN 4 (dn_lst da_nil) (fun q => ?_) sc_Nest.nd
  -- for index, deed in enumerate(deeds):
  refine dss_forM (xs := N.ds.zipIdx) (p := fun p => rTu K [is (.int (p.2 : Nat)), is (.str p.1.t)]) (up := fun p G => (G.set 5 (some (is (.int (p.2 : Nat))))).set 6 (some (is (.str p.1.t)))) (Iv := fun m G W => (∃ o5 o6 o7, G = [some (is (.ref x)), some (is (.str N.o.t)), some (is (.str N.i.t)), some (rTu K (N.ds.map fun D => is (.str D.t))), some (is (.ref q)), o5, o6, o7]) ∧ W = [(q, oLi ((N.ds.take m).map (rD K A))), (x, oIn A.nest [] [])]) (di_eq (di_enumT T.n_enumerate (de_var 3)) (enP_map _ _)) (fun P hP => (dg_tup (dgs_cons (dg_name 5 sc_Nest.nd) (dgs_cons (dg_name 6 sc_Nest.nd) dgs_nil)))) ⟨⟨_, _, _, rfl⟩, rfl⟩ (fun m p G1 W1 hp hI => ?_) (fun G1 W1 hI => ?_)
  · obtain ⟨⟨o5, o6, o7, rfl⟩, rfl⟩ := hI
    have hp2 := List.getElem?_zipIdx (l := N.ds) (i := 0) (j := m)
    rw [hp] at hp2
    cases hD : N.ds[m]? with
    | none => rw [hD] at hp2; cases hp2
    | some D =>
    rw [hD] at hp2
    obtain rfl : p = (D, m) := by simpa using hp2
    have oD := h.2.2.1 D (List.mem_of_getElem? hD)
    have hm : m < N.ds.length := (List.getElem?_eq_some_iff.mp hD).1
    -- known = parsed_deed(deed)
    refine dss_set 7 (de_call (fn_parsed_deed T oD) hr (da_cons (de_var 6) da_nil)) ?_ sc_Nest.nd
    -- if known is None or index >= MOST_DEEDS:
    refine dss_ifF (dt_of (dw_or (k := false) (l := false) (dt_cmp (od_isNO ob_in) (de_var 7) de_non) fun _ => (dw_or1 (dt_eq (dt_cmp od_ge (de_var 5) (de_gv T.g_MOST_DEEDS)) (decide_eq_false (by have := h.2.2.2; omega)))))) ?_
    -- parsed.append(known)
    refine dss_expr (P := is .non) (dx_append1 (P := rD K A D) (de_var 4) (de_var 7) (by rw [List.length_map]; have := List.length_take_le' m N.ds; have := h.2.2.2; omega)) (dss_nil ⟨⟨_, _, _, rfl⟩, ?_⟩)
    rw [List.take_succ, hD, List.map_append]
    rfl
  · obtain ⟨⟨o5, o6, o7, rfl⟩, rfl⟩ := hI
    rw [List.length_zipIdx, List.take_length]
    refine dss_freeL 4 ?_
    -- self.over = outer
    refine dss_fldO T.c_Nest T.na_Nest_over List.mem_cons_self (de_var 0) (de_var 1) (by decide +kernel) ?_
    rw [putO_one]
    -- self.below = inner
    refine dss_fldO T.c_Nest T.na_Nest_below List.mem_cons_self (de_var 0) (de_var 2) (by decide +kernel) ?_
    rw [putO_one]
    -- self.texts = deeds
    refine dss_fldO T.c_Nest T.na_Nest_texts List.mem_cons_self (de_var 0) (de_var 3) (by decide +kernel) ?_
    rw [putO_one]
    -- self.parsed = parsed
    refine dss_fldO T.c_Nest T.na_Nest_parsed List.mem_cons_self (de_var 0) (de_var 4) (by decide +kernel) ?_
    rw [putO_one]
    exact dss_nil nx_none
theorem sc_Program : FnScope ["self", "nests", "index", "nest"] ["self", "nests"] (defScope (inClass (top 79) 0)) := ⟨rfl, rfl, rfl, by decide +kernel, rfl, by decide +kernel, by decide +kernel⟩
theorem ini_Program (T : Tx K w mg A) {Ns : List LN} (h : Ns.length ≤ 4) : IniG P w K mg base A.prog 1 (Ns.map (rN K A)) ["parts"] [rTu K (Ns.map (rN K A))] := by
  obtain ⟨f, fd, M, F⟩ := T.i_Program
  refine ⟨f, M, fun x => fnr_star (ps := ["self"]) (pv := "nests") (Ps := [is (.ref x)]) F sc_Program rfl (by rw [List.length_map]; omega) (fun _ _ _ _ _ _ us rest hl => match us, rest, hl with | [_], [], _ => rfl | [_], _ :: _, _ => rfl) fun cdv Ar outer s H E hr => ?_⟩
  -- for index, nest in enumerate(nests):
  refine dss_forM (xs := Ns.zipIdx) (p := fun p => rTu K [is (.int (p.2 : Nat)), rN K A p.1]) (up := fun p G => (G.set 2 (some (is (.int (p.2 : Nat))))).set 3 (some (rN K A p.1))) (Iv := fun m G W => (∃ o2 o3, G = [some (is (.ref x)), some (rTu K (Ns.map (rN K A))), o2, o3]) ∧ W = [(x, oIn A.prog [] [])]) (di_eq (di_enumT T.n_enumerate (de_var 1)) (enP_map _ _)) (fun P hP => (dg_tup (dgs_cons (dg_name 2 sc_Program.nd) (dgs_cons (dg_name 3 sc_Program.nd) dgs_nil)))) ⟨⟨_, _, rfl⟩, rfl⟩ (fun m p G1 W1 hp hI => ?_) (fun G1 W1 hI => ?_)
  · obtain ⟨⟨o2, o3, rfl⟩, rfl⟩ := hI
    have hm := List.mem_zipIdx (List.mem_of_getElem? hp)
    -- if not isinstance(nest, Nest) or index >= MOST_NESTS:
    refine dss_ifF (dt_of (dw_or (k := false) (l := false) (dt_not (k := true) (dt_val (de_bi (ca_isiC T.c_Nest T.is_Nest) T.n_isinstance boot_isinstance (da_cons (de_var 3) (da_cons (de_gc T.v_Nest) da_nil))))) fun _ => (dw_or1 (dt_eq (dt_cmp od_ge (de_var 2) (de_gv T.g_MOST_NESTS)) (decide_eq_false (by omega)))))) (dss_nil ⟨⟨_, _, rfl⟩, rfl⟩)
  · obtain ⟨⟨o2, o3, rfl⟩, rfl⟩ := hI
    -- self.parts = nests
    refine dss_fldO T.c_Program T.na_Program_parts List.mem_cons_self (de_var 0) (de_var 1) (by decide +kernel) ?_
    rw [putO_one]
    exact dss_nil nx_none
theorem sc_check_program : FnScope ["value"] ["value"] (defScope (top 80)) := ⟨rfl, rfl, rfl, by decide +kernel, rfl, by decide +kernel, by decide +kernel⟩
theorem fn_check_program (T : Tx K w mg A) {Ns : List LN} : FnG P w K mg base "check_program" 1 [rP K A Ns] [] [] (is .non) :=
  fng_of T.d_check_program sc_check_program rfl (fun _ _ _ _ _ _ us hl => match us, hl with | [_], _ => rfl) fun f cdv Ar outer s H E hr => by
  -- if not isinstance(value, Program):
  exact dss_ifF (dt_not (k := true) (dt_val (de_bi (ca_isiC T.c_Program T.is_Program) T.n_isinstance boot_isinstance (da_cons (de_var 0) (da_cons (de_gc T.v_Program) da_nil))))) (dss_nil nx_none)
end
end
end SQ
end
section
set_option maxHeartbeats 400000
namespace SQ
open PySem PySem.Spec PyProof.Rows L2
open PySem.StrLaws
theorem cps_app (a b : Str) : (a ++ b).cps.toList = a.cps.toList ++ b.cps.toList := by rw [Str.cps_append, Array.toList_append]
theorem cps_len (a : Str) : a.cps.toList.length = a.length := by simp [Str.length]
theorem starts_app (a b : Str) : Txt.startswith (a ++ b) a = true := by
  unfold Txt.startswith
  rw [subAt_eq, cps_app, List.drop_zero, ← cps_len a, List.take_left, len_app, ← cps_len a, ← cps_len b]
  simp
theorem starts_ne {a b : Str} (ha : a.cps.toList.head? ≠ b.cps.toList.head?) (hb : b.cps.toList ≠ []) : Txt.startswith a b = false := by
  unfold Txt.startswith
  rw [subAt_eq, List.drop_zero, ← cps_len b]
  cases e : b.cps.toList with
  | nil => exact absurd e hb
  | cons y t =>
    rw [e] at ha
    cases e2 : a.cps.toList with
    | nil => simp
    | cons x s =>
      rw [e2] at ha
      have : ¬ x = y := fun z => ha (by rw [z]; rfl)
      simp [this]
theorem cut_app {a b : Str} {i : Int} (h : i = a.length) : cutS (a ++ b) (some i) none = b := by
  subst h
  unfold cutS
  rw [HT.sIx_none, HT.sIx_nat, len_app, Nat.min_eq_left (Nat.le_add_right _ _), Nat.add_sub_cancel_left]
  refine Str.ext' (Array.toList_inj.mp ?_)
  rw [cps_app]
  show (List.drop a.length (a.cps.toList ++ b.cps.toList)).take b.length = b.cps.toList
  rw [← cps_len a, List.drop_left, ← cps_len b, List.take_length]
theorem mem_lj {c x : Nat} : ∀ {ps : List (List Nat)}, x ∈ lj c ps → x = c ∨ ∃ p ∈ ps, x ∈ p
  | [], h => nomatch h
  | [p], h => .inr ⟨p, List.mem_cons_self, h⟩
  | p :: q :: r, h => by
    have h : x ∈ p ++ c :: lj c (q :: r) := h
    rcases List.mem_append.mp h with h | h
    · exact .inr ⟨p, List.mem_cons_self, h⟩
    · rcases List.mem_cons.mp h with h | h
      · exact .inl h
      · rcases mem_lj h with h | ⟨z, hz, hx⟩
        · exact .inl h
        · exact .inr ⟨z, List.mem_cons_of_mem _ hz, hx⟩
theorem join_free {x : Nat} {ps : List Str} (hx : x ≠ 32) (h : ∀ p ∈ ps, x ∉ p.cps.toList) : x ∉ (Str.join " " ps).cps.toList := by
  rw [sp_eq, join_list]
  intro z
  rcases mem_lj z with z | ⟨p, hp, hz⟩
  · exact hx z
  · obtain ⟨q, hq, rfl⟩ := List.mem_map.mp hp
    exact h q hq hz
theorem endT_nl : ∀ a, a < 18 → 10 ∉ (endT a).cps.toList := by decide +kernel
theorem Lp.t_nl {l : Lp} (h : l.ok 18) : 10 ∉ l.t.cps.toList := by
  rw [l.t_join]
  refine join_free (by decide) fun p hp => ?_
  obtain ⟨a, b, d⟩ := l
  have f1 := endT_nl a h.1
  have f2 := endT_nl b h.2
  have f3 : 10 ∉ ("to" : Str).cps.toList := by decide +kernel
  have f4 : 10 ∉ ("down" : Str).cps.toList := by decide +kernel
  cases d with
  | true =>
    have hp : p ∈ [endT a, "to", endT b, "down"] := hp
    simp only [List.mem_cons, List.not_mem_nil, or_false] at hp
    rcases hp with rfl | rfl | rfl | rfl <;> assumption
  | false =>
    have hp : p ∈ [endT a, "to", endT b] := hp
    simp only [List.mem_cons, List.not_mem_nil, or_false] at hp
    rcases hp with rfl | rfl | rfl <;> assumption
theorem wd_nl : ∀ c, c < 4 → 10 ∉ (wdT c).cps.toList := by decide +kernel
theorem pl_nl : ∀ c, c < 8 → 10 ∉ (plT c).cps.toList := by decide +kernel
theorem nm_nl : ∀ c, c < 4 → 10 ∉ (nmT c).cps.toList := by decide +kernel
theorem sg_nl : ∀ c, c < 4 → 10 ∉ (sgT c).cps.toList := by decide +kernel
theorem LD.t_nl {D : LD} (h : D.ok) : 10 ∉ D.t.cps.toList := by
  refine join_free (by decide) fun p hp => ?_
  unfold LD.wl at hp
  rcases List.mem_append.mp hp with hp | hp
  · rcases List.mem_cons.mp hp with rfl | hp
    · exact wd_nl _ h.w4
    · obtain ⟨s, hs, rfl⟩ := List.mem_map.mp hp
      exact pl_nl _ (h.s8 s hs)
  · have hg := h.g
    cases e : D.gd with
    | none => rw [e] at hp; cases hp
    | some g =>
      obtain ⟨a, q, b⟩ := g
      rw [e] at hp hg
      have f0 : 10 ∉ ("if" : Str).cps.toList := by decide +kernel
      have hp : p ∈ [("if" : Str), nmT a, sgT q, nmT b] := hp
      simp only [List.mem_cons, List.not_mem_nil, or_false] at hp
      rcases hp with rfl | rfl | rfl | rfl
      · exact f0
      · exact nm_nl _ hg.1
      · exact sg_nl _ hg.2.1
      · exact nm_nl _ hg.2.2.1
theorem wd_head : ∀ c, c < 4 → (wdT c).cps.toList.head? ≠ some 105 ∧ (wdT c).cps.toList ≠ [] := by decide +kernel
theorem LD.head {D : LD} (h : D.ok) : D.t.cps.toList.head? ≠ some 105 := by
  have q := wd_head _ h.w4
  unfold LD.t LD.wl LD.ww
  rw [sp_eq, join_list]
  cases e : (D.sp.map plT ++ gw D.gd) with
  | nil =>
    show (lj 32 ((wdT D.wd :: D.sp.map plT ++ gw D.gd).map _)).head? ≠ _
    rw [List.cons_append, e]
    exact q.1
  | cons y t =>
    rw [List.cons_append, e]
    show ((wdT D.wd).cps.toList ++ 32 :: _).head? ≠ _
    cases e2 : (wdT D.wd).cps.toList with
    | nil => exact absurd e2 q.2
    | cons x s =>
      rw [e2] at q
      exact q.1
end SQ
end
section
set_option maxHeartbeats 400000
namespace SQ
open PySem PySem.Spec PyProof.Rows L2 StX ClX
noncomputable section
/-- the rows of a nest's text -/
def LN.rows (N : LN) : List Str := ("i from " ++ N.o.t) :: ("j from " ++ N.i.t) :: N.ds.map LD.t
def LN.t (N : LN) : Str := Str.join "\n" N.rows
theorem nl_eq : ("\n" : Str) = ⟨#[10]⟩ := by decide +kernel
theorem app_nl {a b : Str} (h1 : 10 ∉ a.cps.toList) (h2 : 10 ∉ b.cps.toList) : 10 ∉ (a ++ b).cps.toList := by
  rw [cps_app]
  intro z
  exact (List.mem_append.mp z).elim h1 h2
theorem LN.rows_nl {N : LN} (h : N.ok) : ∀ r ∈ N.rows, 10 ∉ r.cps.toList := by
  intro r hr
  have f1 : 10 ∉ ("i from " : Str).cps.toList := by decide +kernel
  have f2 : 10 ∉ ("j from " : Str).cps.toList := by decide +kernel
  rcases List.mem_cons.mp hr with rfl | hr
  · exact app_nl f1 (Lp.t_nl ⟨by have := h.1.1; omega, by have := h.1.2; omega⟩)
  · rcases List.mem_cons.mp hr with rfl | hr
    · exact app_nl f2 (Lp.t_nl h.2.1)
    · obtain ⟨D, hD, rfl⟩ := List.mem_map.mp hr
      exact LD.t_nl (h.2.2.1 D hD)
theorem LN.split {N : LN} (h : N.ok) : Txt.split N.t "\n" = N.rows := by
  unfold LN.t
  rw [nl_eq]
  exact split_join (by simp [LN.rows]) (N.rows_nl h)
theorem LN.rows_len {N : LN} (h : N.ok) : ∀ r ∈ N.rows, r.length ≤ 300 := by
  intro r hr
  have f1 : ("i from " : Str).length = 7 := by decide +kernel
  have f2 : ("j from " : Str).length = 7 := by decide +kernel
  rcases List.mem_cons.mp hr with rfl | hr
  · rw [len_app, f1]
    have := Lp.len h.1 (by decide)
    omega
  · rcases List.mem_cons.mp hr with rfl | hr
    · rw [len_app, f2]
      have := Lp.len h.2.1 (by decide)
      omega
    · obtain ⟨D, hD, rfl⟩ := List.mem_map.mp hr
      have := LD.len (h.2.2.1 D hD)
      omega
theorem LN.rows_n {N : LN} (h : N.ok) : N.rows.length ≤ 8 := by
  unfold LN.rows
  simp
  exact h.2.2.2
theorem LN.len {N : LN} (h : N.ok) : N.t.length ≤ 3000 := by
  have f : ("\n" : Str).length = 1 := by decide +kernel
  have := join_len "\n" (N.rows_len h)
  have h2 := N.rows_n h
  unfold LN.t
  rw [f] at this
  calc _ ≤ N.rows.length * (300 + 1) := this
    _ ≤ 8 * (300 + 1) := Nat.mul_le_mul_right _ h2
    _ ≤ 3000 := by decide
theorem starts_j (x : Str) : Txt.startswith ("j from " ++ x) "i from " = false := by
  refine starts_ne ?_ (by decide +kernel)
  rw [cps_app]
  have h1 : ("j from " : Str).cps.toList = 106 :: [32, 102, 114, 111, 109, 32] := by decide +kernel
  have h2 : ("i from " : Str).cps.toList = 105 :: [32, 102, 114, 111, 109, 32] := by decide +kernel
  rw [h1, h2]
  simp
theorem starts_d {D : LD} (h : D.ok) : Txt.startswith D.t "i from " = false := by
  refine starts_ne ?_ (by decide +kernel)
  have h2 : ("i from " : Str).cps.toList = 105 :: [32, 102, 114, 111, 109, 32] := by decide +kernel
  rw [h2]
  exact D.head h
theorem LN.row_st {N : LN} (h : N.ok) : ∀ m r, N.rows[m]? = some r → Txt.startswith r "i from " = decide (m = 0) := by
  intro m r hr
  match m with
  | 0 =>
    cases hr
    exact starts_app _ _
  | 1 =>
    cases hr
    exact starts_j _
  | m + 2 =>
    have hr : (N.ds.map LD.t)[m]? = some r := hr
    obtain ⟨D, hD, rfl⟩ := List.mem_map.mp (List.mem_of_getElem? hr)
    exact starts_d (h.2.2.1 D hD)
theorem da_eq {X : Cx} {G : Gm} {W : Ow} {es : List Expr} {Ps Ps' : List VP} (d : DA X G W es Ps) (h : Ps = Ps') : DA X G W es Ps' := h ▸ d
section
variable {P : Program} {w : World} {K : PySem.W.Frag} {mg : Str → Option Value} {base : Heap} {A : Ad}
def rS (t : Str) : VP := is (.str t)
theorem sc_read_nest : FnScope ["rows", "outer", "inner", "deeds"] ["rows"] (defScope (top 83)) := ⟨rfl, rfl, rfl, by decide +kernel, rfl, by decide +kernel, by decide +kernel⟩
theorem fn_read_nest (T : Tx K w mg A) {N : LN} (h : N.ok) : FnG P w K mg base "read_nest" 6 [rLi K (N.rows.map rS)] [] [] (rN K A N) :=
  fng_of T.d_read_nest sc_read_nest rfl (fun _ _ _ _ _ _ us hl => match us, hl with | [_], _ => rfl) fun f cdv Ar outer s H E hr => by
  have hl := N.rows_n h
  have hl2 : 2 ≤ (N.rows.map rS).length := by simp [LN.rows]
  -- if len(rows) < 2 or not rows[1].startswith(INNER_HEAD):
  refine dss_ifF (dt_of (dw_or (k := false) (l := false) (dt_eq (dt_cmp od_lt (de_bi ca_lenL T.n_len boot_len (da_cons (de_var 0) da_nil)) de_int) (decide_eq_false (by omega))) fun _ => (dw_or1 (dt_not (k := true) (dt_val (de_eq (de_startswith (de_ixL (P := is (.str ("j from " ++ N.i.t))) (de_var 0) de_int (atI_k 1 rfl)) (de_gv T.g_INNER_HEAD)) (by rw [starts_app]))))))) ?_
  have l7 : (("i from " : Str).length : Int) = 7 ∧ (("j from " : Str).length : Int) = 7 := by decide +kernel
  -- outer, inner, deeds = (rows[0][len(OUTER_HEAD):], rows[1][len(INNER_HEAD):], rows[2:])
  refine dss_par3 1 2 3 (P1 := is (.str N.o.t)) (P2 := is (.str N.i.t)) (P3 := rLi K (N.ds.map fun D => rS D.t)) (da_cons (de_eq (de_slS (de_ixL (P := is (.str ("i from " ++ N.o.t))) (de_var 0) de_int (atI_k 0 rfl)) (do_some (de_bi (ca_lenS (by decide +kernel)) T.n_len boot_len (da_cons (de_gv T.g_OUTER_HEAD) da_nil))) do_none (Nat.le_trans (N.rows_len h _ List.mem_cons_self) (by decide))) (by rw [cut_app rfl])) (da_cons (de_eq (de_slS (de_ixL (P := is (.str ("j from " ++ N.i.t))) (de_var 0) de_int (atI_k 1 rfl)) (do_some (de_bi (ca_lenS (by decide +kernel)) T.n_len boot_len (da_cons (de_gv T.g_INNER_HEAD) da_nil))) do_none (Nat.le_trans (N.rows_len h _ (List.mem_cons_of_mem _ List.mem_cons_self)) (by decide))) (by rw [cut_app rfl])) (da_cons (de_eq (de_slL (de_var 0) (do_some de_int) do_none) (by rw [cutP_from (i := 2) (k := 2) rfl]; unfold LN.rows; rw [List.map_cons, List.map_cons, List.map_map]; rfl)) da_nil))) ?_ sc_read_nest.nd
  -- try:
  refine dss_try ?_
  refine dss_ret (de_make2 (Ps := [is (.str N.o.t), is (.str N.i.t)] ++ N.ds.map fun D => is (.str D.t)) (ini_Nest T h) hr (de_gc T.v_Nest) (da_cons (de_var 1) (da_cons (de_var 2) (da_eq (da_star (de_var 3) da_nil) (List.append_nil _))))) rt_same
theorem dss_nd {X : Cx} {G : Gm} {W : Ow} {rest : List Stmt} {D : DEn} (h : ¬ (W.map (·.1)).Nodup) : DSs X G W rest D := ⟨fun pins s σ H E I ⟨c, S, eo⟩ => absurd S.nd h⟩
theorem dss_appendN1 {X : Cx} {G : Gm} {W : Ow} {rest : List Stmt} {D : DEn} {a e : Expr} {q : Addr} {Qs : List VP} {C : OC} {apos cpos pos2 : Pos} (ho : DE X G ((q, oLi Qs) :: W) a (is (.ref q))) (ha : DN X G ((q, oLi Qs) :: W) e C) (hl : Qs.length < 100000)
    (h : ∀ r, DSs X G ((r, C) :: (q, oLi (Qs ++ [is (.ref r)])) :: W) rest D)
    (hbase : attributeBase a "append" X.env (eval a X.env) = eval a X.env := by rfl)
    (hfew : ((backTo cpos (starEach [e] X.env)).all (fun x => !x.1) && (backToKw cpos (keywordEach [] X.env)).all (fun x => x.1.isSome)
      && decide ([e].length + ([] : List Keyword).length + (if ([] : List Keyword).isEmpty then 0 else 1) < 30)) = true := by rfl)
    (hline : (apos.endLine == cpos.line) = true := by rfl) (hs : starEach [e] X.env = [(false, eval e X.env)] := by rfl)
    (hsw : swapsWith (.Call (.Attribute a "append" apos) [e] [] cpos) none pos2.line X.env = pure false := by rfl) :
    DSs X G ((q, oLi Qs) :: W) (.Expr (.Call (.Attribute a "append" apos) [e] [] cpos) pos2 :: rest) D :=
  dx_appendN (st2 := D) (pos2 := pos2) List.mem_cons_self ho ha hl hbase hfew hline hs (fun r => by
    by_cases e : r = q
    · subst e
      refine dss_nd fun z => ?_
      rw [putO_keys] at z
      exact (List.nodup_cons.mp z).1 List.mem_cons_self
    · have : putO ((r, C) :: (q, oLi Qs) :: W) q (oLi (Qs ++ [is (.ref r)])) = (r, C) :: (q, oLi (Qs ++ [is (.ref r)])) :: W := by simp [putO, e]
      rw [this]
      exact h r) hsw
theorem any_fl {α : Type} (xs : List α) : (xs.map fun _ => false).any id = false := by induction xs with
  | nil => rfl
  | cons x xs ih => rw [List.map_cons, List.any_cons, ih]; rfl
theorem sc_read_nests : FnScope ["text", "groups", "row", "nests", "rows", "nest"] ["text"] (defScope (top 82)) := ⟨rfl, rfl, rfl, by decide +kernel, rfl, by decide +kernel, by decide +kernel⟩
theorem fn_read_nests (T : Tx K w mg A) {N : LN} (h : N.ok) : FnG P w K mg base "read_nests" 7 [is (.str N.t)] [] [] (rLi K [rN K A N]) :=
  fng_of T.d_read_nests sc_read_nests rfl (fun _ _ _ _ _ _ us hl => match us, hl with | [_], _ => rfl) fun f cdv Ar outer s H E hr => by
  have hn := N.rows_n h
  have hne : ¬ N.t = "" := fun z => by
    have e := N.split h
    rw [z] at e
    have e2 : (Txt.split "" "\n").length = 1 := by decide +kernel
    rw [e] at e2
    simp [LN.rows] at e2
  -- if not isinstance(text, str):
  refine dss_ifF (dt_not (k := true) (dt_val (de_bi (ca_isi ty_str) T.n_isinstance boot_isinstance (da_cons (de_var 0) (da_cons (de_bty T.n_str boot_str) da_nil))))) ?_
  -- groups = []
  refine dss_setN 1 (dn_lst da_nil) (fun q => ?_) sc_read_nests.nd
  -- for row in text.split('\n') if text != '' else []:
  refine dss_forM (xs := N.rows) (p := rS) (up := fun t G => G.set 2 (some (rS t))) (Iv := fun m G W => (∃ o2, G = [some (is (.str N.t)), some (is (.ref q)), o2, none, none, none]) ∧ ((m = 0 ∧ W = [(q, oLi [])]) ∨ (0 < m ∧ ∃ r, W = [(r, oLi ((N.rows.take m).map rS)), (q, oLi [is (.ref r)])])))
    (di_list (de_if (k := true) (dt_eq (dt_cmp od_neS (de_var 0) de_str) (by simp [hne])) (fun _ => de_eq (de_split (de_var 0) de_str (by decide +kernel) (Nat.le_trans (N.len h) (by decide))) (by rw [N.split h]; rfl)) (fun z => nomatch z))) (fun t ht => (dg_name 2 sc_read_nests.nd)) ⟨⟨_, rfl⟩, .inl ⟨rfl, rfl⟩⟩ (fun m t G1 W1 ht hI => ?_) (fun G1 W1 hI => ?_)
  · obtain ⟨⟨o2, rfl⟩, hI⟩ := hI
    have hst := N.row_st h m t ht
    have hm : m < N.rows.length := (List.getElem?_eq_some_iff.mp ht).1
    have sn : (N.rows.take (m + 1)).map rS = (N.rows.take m).map rS ++ [rS t] := by
      rw [List.take_succ, ht, List.map_append]
      rfl
    -- if row.startswith(OUTER_HEAD):
    refine dss_if (k := decide (m = 0)) (dt_eq (dt_val (de_startswith (i := t) (de_var 2) (de_gv T.g_OUTER_HEAD))) hst) (fun hc => ?_) (fun hc => ?_)
    · have hc := of_decide_eq_true hc
      subst hc
      rcases hI with ⟨_, rfl⟩ | ⟨z, _⟩
      rotate_left
      · exact absurd z (Nat.lt_irrefl 0)
      -- groups.append([])
      refine dss_appendN1 (de_var 1) (dn_lst da_nil) (by decide) (fun r => dss_nil ?_)
      -- if len(groups) == 0:
      refine dss_ifF (dt_eq (dt_cmp od_eqI (de_lenO (List.mem_cons_of_mem _ List.mem_cons_self) T.n_len (da_cons (de_var 1) da_nil)) de_int) (by simp)) ?_
      -- groups[-1].append(row)
      refine dss_expr (P := is .non) (dx_append1 (P := rS t) (de_ixO (q := q) (P := is (.ref r)) (Qs := [is (.ref r)]) (List.mem_cons_of_mem _ List.mem_cons_self) (de_var 1) (de_neg de_int) (atI_neg 0 rfl rfl (by decide))) (de_var 2) (by simp)) (dss_nil ?_)
      refine ⟨⟨_, rfl⟩, .inr ⟨by omega, r, ?_⟩⟩
      rw [sn]
      rfl
    · have hc := of_decide_eq_false hc
      rcases hI with ⟨z, _⟩ | ⟨_, r, rfl⟩
      · exact absurd z hc
      refine dss_nil ?_
      -- if len(groups) == 0:
      refine dss_ifF (dt_eq (dt_cmp od_eqI (de_lenO (List.mem_cons_of_mem _ List.mem_cons_self) T.n_len (da_cons (de_var 1) da_nil)) de_int) (by simp)) ?_
      -- groups[-1].append(row)
      refine dss_expr (P := is .non) (dx_append1 (P := rS t) (de_ixO (q := q) (P := is (.ref r)) (Qs := [is (.ref r)]) (List.mem_cons_of_mem _ List.mem_cons_self) (de_var 1) (de_neg de_int) (atI_neg 0 rfl rfl (by decide))) (de_var 2) (by rw [List.length_map]; have := List.length_take_le' m N.rows; omega)) (dss_nil ?_)
      refine ⟨⟨_, rfl⟩, .inr ⟨by omega, r, ?_⟩⟩
      rw [sn]
  · obtain ⟨⟨o2, rfl⟩, hI⟩ := hI
    rcases hI with ⟨z, _⟩ | ⟨_, r, rfl⟩
    · simp [LN.rows] at z
    rw [List.take_length]
    refine dss_freeLL 1 ?_
    -- nests = [read_nest(rows) for rows in groups]
    refine dss_setLcA 3 (own := [("rows", 4)]) (js := [4]) (xs := [()]) (p := fun _ => rLi K (N.rows.map rS)) (r := fun _ => rN K A N) (up := fun _ G => G.set 4 (some (rLi K (N.rows.map rS)))) sc_read_nests.nd (di_list (de_var 1)) (blk_of (by kernel_rfl)) (by simp) (by decide) (fun s H C cl fp x hx => (dg_name 4 sc_read_nests.nd)) (fun s H C cl fp x hx => (de_call (fn_read_nest T h) hr (da_cons (de_var 4) da_nil))) ?_
    -- if len(nests) > MOST_NESTS or any([nest is None for nest in nests]):
    refine dss_ifF (dt_of (dw_or (k := false) (l := false) (dt_eq (dt_cmp od_gt (de_bi ca_lenL T.n_len boot_len (da_cons (de_var 3) da_nil)) (de_gv T.g_MOST_NESTS)) (by rfl)) fun _ => (dw_or1 (dt_val (de_eq (de_bi (ca_any (ns := [false])) T.n_any boot_any (da_cons (de_lcA (own := [("nest", 5)]) (js := [5]) (xs := [()]) (p := fun _ => rN K A N) (r := fun _ => is (.bl false)) (up := fun _ G => G.set 5 (some (rN K A N))) sc_read_nests.nd (di_list (de_var 3)) (blk_of (by kernel_rfl)) (by simp) (by decide) (fun s H C cl fp x hx => (dg_name 5 sc_read_nests.nd)) (fun s H C cl fp x hx => (de_cmp (od_isNO ob_in) (de_var 5) de_non))) da_nil)) rfl))))) ?_
    -- return nests
    exact dss_ret (de_var 3) (rt_same)
theorem sc_Program_read : FnScope ["cls", "text", "nests"] ["cls", "text"] (defScope (inClass (top 79) 1)) := ⟨rfl, rfl, rfl, by decide +kernel, rfl, by decide +kernel, by decide +kernel⟩
theorem cm_read (T : Tx K w mg A) {N : LN} (h : N.ok) : CMG P w K mg base A.prog "read" 8 [is (.str N.t)] (rP K A [N]) := by
  obtain ⟨mc, pr, g, fd, h1, h2, F⟩ := T.cm_read
  refine ⟨mc, pr, g, h1, h2, fnr_of F sc_Program_read rfl (fun _ _ _ _ _ _ us hl => match us, hl with | [_, _], _ => rfl) fun cdv Ar outer s H E hr => ?_⟩
  -- nests = read_nests(text)
  refine dss_set 2 (de_call (fn_read_nests T h) hr (da_cons (de_var 1) da_nil)) ?_ sc_Program_read.nd
  -- if nests is None:
  refine dss_ifF (dt_cmp (od_isNO ob_li) (de_var 2) de_non) ?_
  -- return cls(*nests)
  exact dss_ret (de_make1 (ini_Program T (Ns := [N]) (by simp)) hr (de_var 0) (de_var 2)) (rt_same)
end
end
end SQ
end
section
set_option maxHeartbeats 400000
namespace SQ
open PySem PySem.Spec PyProof.Rows L2
/-! sets of sizes -/
def oV : Option Int → V
  | none => .non
  | some i => .int i
def tl (xs : List Int) : Nat → Int → Int
  | 0, b => b
  | m + 1, b => if b - 2 ∈ xs then tl xs m (b - 2) else b
def tlO (xs : List Int) (b : Option Int) : Option Int := b.map (tl xs 5)
theorem tl_stop {xs : List Int} {b : Int} (h : ¬ b - 2 ∈ xs) : ∀ m, tl xs m b = b
  | 0 => rfl
  | m + 1 => if_neg h
theorem tl_ok {xs : List Int} : ∀ (m : Nat) (b : Int), tl xs m b ≤ b ∧ tl xs m b % 2 = b % 2 ∧ ∀ s, tl xs m b ≤ s → s < b → s % 2 = b % 2 → s ∈ xs
  | 0, b => ⟨Int.le_refl _, rfl, fun s h1 h2 _ => absurd h2 (by have : tl xs 0 b = b := rfl; omega)⟩
  | m + 1, b => by
    by_cases h : b - 2 ∈ xs
    · have e : tl xs (m + 1) b = tl xs m (b - 2) := if_pos h
      obtain ⟨h1, h2, h3⟩ := tl_ok (xs := xs) m (b - 2)
      rw [e]
      refine ⟨by omega, by omega, fun s s1 s2 s3 => ?_⟩
      by_cases z : s = b - 2
      · rw [z]; exact h
      · exact h3 s s1 (by omega) (by omega)
    · rw [tl_stop h]
      exact ⟨Int.le_refl _, rfl, fun s h1 h2 _ => absurd h2 (by omega)⟩
def gon (t0 t1 : Option Int) (n : Int) : Bool := match (if n % 2 = 0 then t0 else t1) with
  | none => false
  | some b => decide (b ≤ n)
/-- the listed sizes, the ends -/
def lsd (ts : List Bool) : List Int := ((List.range 9).filter fun (k : Nat) => ts.getD k false).map fun (k : Nat) => (k : Int) + 1
def enE (ts : List Bool) : Option Int := if ts.getD 9 false = true then some 10 else none
def enO (ts : List Bool) : Option Int := if ts.getD 10 false = true then some 11 else none
def szE (ts : List Bool) : Option Int := tlO (lsd ts) (enE ts)
def szO (ts : List Bool) : Option Int := tlO (lsd ts) (enO ts)
def szF (ts : List Bool) : List Int := (lsd ts).filter fun s => !gon (szE ts) (szO ts) s
def szIn (ts : List Bool) (n : Int) : Bool := decide (n ∈ szF ts) || gon (szE ts) (szO ts) n
theorem lsd_mem {ts : List Bool} {n : Int} : n ∈ lsd ts ↔ 1 ≤ n ∧ n ≤ 9 ∧ ts.getD (n.toNat - 1) false = true := by
  unfold lsd
  rw [List.mem_map]
  constructor
  · rintro ⟨k, hk, rfl⟩
    obtain ⟨h1, h2⟩ := List.mem_filter.mp hk
    have h1 := List.mem_range.mp h1
    refine ⟨by omega, by omega, ?_⟩
    have : ((k : Int) + 1).toNat - 1 = k := by omega
    rw [this]
    exact h2
  · rintro ⟨h1, h2, h3⟩
    exact ⟨n.toNat - 1, List.mem_filter.mpr ⟨List.mem_range.mpr (by omega), h3⟩, by omega⟩
theorem szIn_eq {ts : List Bool} {n : Int} (hn : 1 ≤ n) : szIn ts n = ts.getD (if n ≤ 9 then n.toNat - 1 else 9 + (n % 2).toNat) false := by
  -- the end of n's parity
  have key : ∀ (b : Int) (t : Bool) (e : Option Int), (b = 10 ∨ b = 11) → b % 2 = n % 2 → e = (if t = true then some b else none) → (if n % 2 = 0 then szE ts else szO ts) = tlO (lsd ts) e →
      szIn ts n = (decide (n ∈ lsd ts) || (t && decide (b ≤ n))) := by
    intro b t e hb hp he hs
    have hg : gon (szE ts) (szO ts) n = match tlO (lsd ts) e with | none => false | some b => decide (b ≤ n) := by
      unfold gon
      rw [hs]
    cases t with
    | false =>
      rw [if_neg (by decide)] at he
      subst he
      have hg : gon (szE ts) (szO ts) n = false := hg
      have hf : n ∈ szF ts ↔ n ∈ lsd ts := by
        unfold szF
        rw [List.mem_filter, hg]
        simp
      unfold szIn
      rw [hg]
      simp [hf]
    | true =>
      rw [if_pos rfl] at he
      subst he
      obtain ⟨h1, h2, h3⟩ := tl_ok (xs := lsd ts) 5 b
      have hg : gon (szE ts) (szO ts) n = decide (tl (lsd ts) 5 b ≤ n) := hg
      by_cases hle : tl (lsd ts) 5 b ≤ n
      · have hg : gon (szE ts) (szO ts) n = true := hg.trans (decide_eq_true hle)
        unfold szIn
        rw [hg, Bool.or_true, Bool.true_and]
        by_cases hbn : b ≤ n
        · rw [decide_eq_true hbn, Bool.or_true]
        · rw [decide_eq_true (h3 n hle (by omega) hp.symm), Bool.true_or]
      · have hg : gon (szE ts) (szO ts) n = false := hg.trans (decide_eq_false hle)
        have hf : n ∈ szF ts ↔ n ∈ lsd ts := by
          unfold szF
          rw [List.mem_filter, hg]
          simp
        unfold szIn
        rw [hg]
        have : ¬ b ≤ n := by omega
        simp [hf, this]
  have hm : decide (n ∈ lsd ts) = (decide (n ≤ 9) && ts.getD (n.toNat - 1) false) := by
    by_cases h9 : n ≤ 9
    · have : n ∈ lsd ts ↔ ts.getD (n.toNat - 1) false = true := by
        rw [lsd_mem]
        exact ⟨fun z => z.2.2, fun z => ⟨hn, h9, z⟩⟩
      have e2 : decide (n ∈ lsd ts) = ts.getD (n.toNat - 1) false := by
        cases e : ts.getD (n.toNat - 1) false with
        | true => exact decide_eq_true (this.mpr e)
        | false => exact decide_eq_false fun z => by rw [this.mp z] at e; cases e
      rw [e2, decide_eq_true h9, Bool.true_and]
    · have : ¬ n ∈ lsd ts := fun z => h9 (lsd_mem.mp z).2.1
      simp [h9, this]
  have h2 : n % 2 = 0 ∨ n % 2 = 1 := by omega
  rcases h2 with h2 | h2
  · rw [key 10 (ts.getD 9 false) (enE ts) (.inl rfl) (by rw [h2]; rfl) rfl (by rw [if_pos h2]; rfl), hm]
    by_cases h9 : n ≤ 9
    · have : ¬ 10 ≤ n := by omega
      rw [if_pos h9]
      simp [h9, this]
    · have : 10 ≤ n := by omega
      rw [if_neg h9, h2]
      simp [h9, this]
  · rw [key 11 (ts.getD 10 false) (enO ts) (.inr rfl) (by rw [h2]; rfl) rfl (by rw [if_neg (by omega)]; rfl), hm]
    by_cases h9 : n ≤ 9
    · have : ¬ 11 ≤ n := by omega
      rw [if_pos h9]
      simp [h9, this]
    · have : 11 ≤ n := by omega
      rw [if_neg h9, h2]
      simp [h9, this]
end SQ
end
section
set_option maxHeartbeats 400000
namespace SQ
open PySem PySem.Spec PyProof.Rows L2 StX ClX
noncomputable section
/-- one ahead of the next lies the last -/
def lastI (xs : List Int) (m : Nat) : Int := if m = 0 then 0 else xs.getD (m - 1) 0
def AscI (xs : List Int) (most : Int) : Prop := ∀ m x, xs[m]? = some x → lastI xs m < x ∧ x ≤ most
theorem asc_of {xs : List Int} {most : Int} (h1 : xs.Pairwise (· < ·)) (h2 : ∀ x ∈ xs, 1 ≤ x ∧ x ≤ most) : AscI xs most := by
  intro m x hx
  have q := h2 x (List.mem_of_getElem? hx)
  refine ⟨?_, q.2⟩
  unfold lastI
  by_cases hm : m = 0
  · rw [if_pos hm]; omega
  · rw [if_neg hm]
    obtain ⟨hl, e⟩ := List.getElem?_eq_some_iff.mp hx
    have hl2 : m - 1 < xs.length := by omega
    rw [List.getD_eq_getElem?_getD, List.getElem?_eq_getElem hl2, ← e]
    exact List.pairwise_iff_getElem.mp h1 (m - 1) m hl2 hl (by omega)
theorem lsd_asc (ts : List Bool) : AscI (lsd ts) 11 := by
  refine asc_of ?_ fun x hx => by have := lsd_mem.mp hx; omega
  unfold lsd
  rw [List.pairwise_map]
  exact (List.Pairwise.filter _ List.pairwise_lt_range).imp fun h => by omega
theorem dw_eq {X : Cx} {G : Gm} {W : Ow} {e : Expr} {k k' : Bool} (d : DW X G W e k) (h : k = k') : DW X G W e k' := h ▸ d
section
variable {P : Program} {w : World} {K : PySem.W.Frag} {mg : Str → Option Value} {base : Heap} {A : Ad}
theorem sc_check_listed : FnScope ["value", "most", "last", "index", "size"] ["value", "most"] (defScope (top 86)) := ⟨rfl, rfl, rfl, by decide +kernel, rfl, by decide +kernel, by decide +kernel⟩
theorem fn_check_listed (T : Tx K w mg A) {xs : List Int} {most : Int} (h : AscI xs most) : FnG P w K mg base "check_listed" 3 [rTu K (xs.map rI), is (.int most)] [] [] (is .non) :=
  fng_of T.d_check_listed sc_check_listed rfl (fun _ _ _ _ _ _ us hl => match us, hl with | [_, _], _ => rfl) fun f cdv Ar outer s H E hr => by
  -- if not isinstance(value, tuple):
  refine dss_ifF (dt_not (k := true) (dt_val (de_bi ca_isiT T.n_isinstance boot_isinstance (da_cons (de_var 0) (da_cons (de_bty T.n_tuple boot_tuple) da_nil))))) ?_
  -- last = 0
  refine dss_set 2 de_int ?_ sc_check_listed.nd
  -- for index, size in enumerate(value):
  refine dss_forM (xs := xs.zipIdx) (p := fun p => rTu K [is (.int (p.2 : Nat)), rI p.1]) (up := fun p G => (G.set 3 (some (is (.int (p.2 : Nat))))).set 4 (some (rI p.1))) (Iv := fun m G W => (∃ o3 o4, G = [some (rTu K (xs.map rI)), some (is (.int most)), some (is (.int (lastI xs m))), o3, o4]) ∧ W = []) (di_eq (di_enumT T.n_enumerate (de_var 0)) (enP_map _ _)) (fun P hP => (dg_tup (dgs_cons (dg_name 3 sc_check_listed.nd) (dgs_cons (dg_name 4 sc_check_listed.nd) dgs_nil)))) ⟨⟨_, _, rfl⟩, rfl⟩ (fun m p G1 W1 hp hI => ?_) (fun G1 W1 hI => ?_)
  · obtain ⟨⟨o3, o4, rfl⟩, rfl⟩ := hI
    have hp2 := List.getElem?_zipIdx (l := xs) (i := 0) (j := m)
    rw [hp] at hp2
    cases hx : xs[m]? with
    | none => rw [hx] at hp2; cases hp2
    | some x =>
    rw [hx] at hp2
    obtain rfl : p = (x, m) := by simpa using hp2
    have q := h m x hx
    -- if not within_values(size, last + 1, most):
    refine dss_ifF (dt_not (k := true) (dt_val (de_eq (de_call (fn_within_values T (v := x)) hr (da_cons (de_var 4) (da_cons (de_bin od_add (de_var 2) de_int) (da_cons (de_var 1) da_nil)))) (by rw [decide_eq_true (by omega), decide_eq_true q.2]; rfl)))) ?_
    -- last = size
    refine dss_set 2 (de_var 4) (dss_nil ?_) sc_check_listed.nd
    have e : lastI xs (m + 1) = x := by
      unfold lastI
      rw [if_neg (by omega), List.getD_eq_getElem?_getD, Nat.add_sub_cancel, hx]
      rfl
    show (∃ o3 o4, _ = [_, _, some (is (.int (lastI xs (m + 1)))), o3, o4]) ∧ _
    rw [e]
    exact ⟨⟨_, _, rfl⟩, rfl⟩
  · obtain ⟨⟨o3, o4, rfl⟩, rfl⟩ := hI
    exact dss_nil nx_none
theorem sc_check_tail : FnScope ["value", "rest", "most"] ["value", "rest", "most"] (defScope (top 87)) := ⟨rfl, rfl, rfl, by decide +kernel, rfl, by decide +kernel, by decide +kernel⟩
theorem fn_check_tail (T : Tx K w mg A) {b : Option Int} {r most : Int} (h : ∀ x, b = some x → 1 ≤ x ∧ x ≤ most ∧ x % 2 = r) : FnG P w K mg base "check_tail" 3 [is (oV b), is (.int r), is (.int most)] [] [] (is .non) :=
  fng_of T.d_check_tail sc_check_tail rfl (fun _ _ _ _ _ _ us hl => match us, hl with | [_, _, _], _ => rfl) fun f cdv Ar outer s H E hr => by
  -- if value is not None and (not (within_values(value, 1, most) and int(value) % 2 == rest)):
  cases b with
  | none => exact dss_ifF (dt_of (dw_and (k := false) (l := false) (dt_eq (dt_cmp od_notN (de_var 0) de_non) rfl) fun z => nomatch z)) (dss_nil nx_none)
  | some x =>
    obtain ⟨h1, h2, h3⟩ := h x rfl
    exact dss_ifF (dt_of (dw_and (k := true) (l := false) (dt_eq (dt_cmp od_notN (de_var 0) de_non) rfl) fun _ => (dw_and1 (dt_not (k := true) (dt_of (dw_and (k := true) (l := true) (dt_val (de_eq (de_call (fn_within_values T (v := x)) hr (da_cons (de_var 0) (da_cons de_int (da_cons (de_var 2) da_nil)))) (by rw [decide_eq_true h1, decide_eq_true h2]; rfl))) fun _ => (dw_and1 (dt_eq (dt_cmp od_eqI (de_bin (od_mod (i := x) (by decide)) (de_ty ca_int T.n_int boot_int (da_cons (de_var 0) da_nil)) de_int) (de_var 1)) (decide_eq_true h3)))))))))  (dss_nil nx_none)
theorem sc_tail_from : FnScope ["listed", "begin"] ["listed", "begin"] (defScope (top 88)) := ⟨rfl, rfl, rfl, by decide +kernel, rfl, by decide +kernel, by decide +kernel⟩
theorem fn_tail_from (T : Tx K w mg A) {xs : List Int} {b : Option Int} (hx : ∀ x ∈ xs, 1 ≤ x) (hb : ∀ x, b = some x → x ≤ 12) : FnG P w K mg base "tail_from" 1 [rTu K (xs.map rI), is (oV b)] [] [] (is (oV (tlO xs b))) :=
  fng_of T.d_tail_from sc_tail_from rfl (fun _ _ _ _ _ _ us hl => match us, hl with | [_, _], _ => rfl) fun f cdv Ar outer s H E hr => by
  cases b with
  | none =>
    refine dss_while (m0 := 0) (Iv := fun m G W => G = [some (rTu K (xs.map rI)), some (is .non)] ∧ W = []) ⟨rfl, rfl⟩ fun m G1 W1 ⟨hG, hW⟩ => ?_
    subst hG
    subst hW
    refine ⟨false, dt_of (dw_and (k := false) (l := false) (dt_eq (dt_cmp od_notN (de_var 1) de_non) rfl) fun z => nomatch z), fun z => (nomatch z), fun _ => ?_⟩
    exact dss_ret (de_var 1) (rt_same)
  | some b =>
    have hb := hb b rfl
    -- while begin is not None and begin - 2 in listed:
    refine dss_while (m0 := 5) (Iv := fun m G W => ∃ c, c ≤ 2 * (m : Int) + 2 ∧ tl xs m c = tl xs 5 b ∧ G = [some (rTu K (xs.map rI)), some (is (.int c))] ∧ W = []) ⟨b, by omega, rfl, rfl, rfl⟩ fun m G1 W1 ⟨c, hc, ht, hG, hW⟩ => ?_
    subst hG
    subst hW
    refine ⟨decide (c - 2 ∈ xs), dt_of (dw_eq (dw_and (k := true) (l := decide (c - 2 ∈ xs)) (dt_eq (dt_cmp od_notN (de_var 1) de_non) rfl) fun _ => (dw_and1 (dt_eq (dt_cmp (od_inFT (x := .int (c - 2)) (xs := xs.map V.int) rfl (flat_ints _)) (de_bin od_sub (de_var 1) de_int) (de_eq (de_var 0) (by rw [map_int_is]; rfl))) (by rw [inV_ints])))) (Bool.true_and _)), fun hk => ?_, fun hk => ?_⟩
    · -- begin = begin - 2
      have hk := of_decide_eq_true hk
      have := hx _ hk
      refine dss_set 1 (de_bin od_sub (de_var 1) de_int) (dss_nil ?_) sc_tail_from.nd
      match m, ht with
      | 0, _ => omega
      | m + 1, ht =>
        refine ⟨m, by omega, c - 2, by omega, ?_, rfl, rfl⟩
        rw [← ht]
        exact (if_pos hk).symm
    · -- return begin
      have hk := of_decide_eq_false hk
      rw [tl_stop hk] at ht
      exact dss_ret (de_eq (de_var 1) (by rw [ht]; rfl)) (rt_same)
theorem sc_goes_on : FnScope ["tails", "size", "begin"] ["tails", "size"] (defScope (top 89)) := ⟨rfl, rfl, rfl, by decide +kernel, rfl, by decide +kernel, by decide +kernel⟩
theorem fn_goes_on (T : Tx K w mg A) {t0 t1 : Option Int} {n : Int} : FnG P w K mg base "goes_on" 1 [rTu K [is (oV t0), is (oV t1)], is (.int n)] [] [] (is (.bl (gon t0 t1 n))) :=
  fng_of T.d_goes_on sc_goes_on rfl (fun _ _ _ _ _ _ us hl => match us, hl with | [_, _], _ => rfl) fun f cdv Ar outer s H E hr => by
  have h2 : n % 2 = 0 ∨ n % 2 = 1 := by omega
  -- begin = tails[int(size) % 2]
  refine dss_set 2 (P := is (oV (if n % 2 = 0 then t0 else t1))) (de_ixT (i := n % 2) (de_var 0) (de_bin (od_mod (i := n) (by decide)) (de_ty ca_int T.n_int boot_int (da_cons (de_var 1) da_nil)) de_int) ?_) ?_ sc_goes_on.nd
  · rcases h2 with h | h
    · rw [if_pos h, h]
      exact atI_k 0 rfl
    · rw [if_neg (by omega), h]
      exact atI_k 1 rfl
  unfold gon
  generalize (if n % 2 = 0 then t0 else t1) = t
  cases t with
  | none => exact dss_ret (de_and (k := false) (l := false) (de_eq (de_cmp od_notN (de_var 2) de_non) rfl) fun z => nomatch z) (rt_same)
  | some b => exact dss_ret (de_eq (de_and (k := true) (l := decide (b ≤ n)) (de_eq (de_cmp od_notN (de_var 2) de_non) rfl) fun _ => (de_one (de_cmp od_le (de_var 2) (de_var 1)))) (by rw [Bool.true_and])) (rt_same)
def rSz (K : PySem.W.Frag) (A : Ad) (ts : List Bool) : VP := rIn A.sizes ["tails", "few"] [rTu K [is (oV (szE ts)), is (oV (szO ts))], rTu K ((szF ts).map rI)]
theorem sc_Sizes : FnScope ["self", "listed", "even", "odd", "most", "size"] ["self", "listed", "even", "odd", "most"] (defScope (inClass (top 90) 0)) := ⟨rfl, rfl, rfl, by decide +kernel, rfl, by decide +kernel, by decide +kernel⟩
theorem enE_ok {ts : List Bool} : ∀ x, enE ts = some x → x = 10 := by
  intro x h
  unfold enE at h
  split at h
  · exact (Option.some.inj h).symm
  · cases h
theorem enO_ok {ts : List Bool} : ∀ x, enO ts = some x → x = 11 := by
  intro x h
  unfold enO at h
  split at h
  · exact (Option.some.inj h).symm
  · cases h
theorem fnok_Sizes (T : Tx K w mg A) (ts : List Bool) : ∃ f fd, ∃ g : List Value → List Value → List Value, Mk K A.sizes f ∧ KBn K fd ["self", "listed", "even", "odd", "most"] 2 ["even", "odd", "most"] g (fun vs zs => vs ++ zs) ∧
    FnOk P w K mg base CX0 4 f fd ["self", "listed", "even", "odd", "most"] (fun vs H Q E => ∃ x, SpF (is (.ref x) :: ([rTu K ((lsd ts).map rI)] ++ [is (oV (enE ts)), is (oV (enO ts)), is (.int 11)])) [(x, oIn A.sizes [] [])] [(x, oIn A.sizes ["tails", "few"] [rTu K [is (oV (szE ts)), is (oV (szO ts))], rTu K ((szF ts).map rI)])] (is .non) vs H Q E) := by
  obtain ⟨f, fd, t, M, F⟩ := T.i_Sizes
  obtain ⟨its, hb⟩ := F.kbindsD (ps := ["self", "listed", "even", "odd", "most"]) 2 ["even", "odd", "most"] (fun {α} us its ws => us ++ ws) (by simp) (fun r1 _ r2 => r1.append r2) (fun T kV doc pm an cdv ct us its ws h1 h2 h3 => match us, its, ws, h1, h2, h3 with | [_, _], [_], [_, _, _], _, _, _ => ⟨_, rfl, rfl⟩)
  refine ⟨f, fd, _, M, hb, ?_⟩
  have one : ∀ x, FnOk P w K mg base CX0 4 f fd ["self", "listed", "even", "odd", "most"] (SpF (is (.ref x) :: ([rTu K ((lsd ts).map rI)] ++ [is (oV (enE ts)), is (oV (enO ts)), is (.int 11)])) [(x, oIn A.sizes [] [])] [(x, oIn A.sizes ["tails", "few"] [rTu K [is (oV (szE ts)), is (oV (szO ts))], rTu K ((szF ts).map rI)])] (is .non)) := fun x => by
    refine fnok_of F sc_Sizes rfl fun cdv Ar outer s H E hr => ?_
    have ls1 : ∀ x ∈ lsd ts, 1 ≤ x := fun x hx => (lsd_mem.mp hx).1
    have lsl : (lsd ts).length ≤ 9 := by
      unfold lsd
      rw [List.length_map]
      exact List.length_filter_le _ _
    -- check_listed(listed, most)
    refine dss_expr (P := is .non) (de_call (fn_check_listed T (lsd_asc ts)) hr (da_cons (de_var 1) (da_cons (de_var 4) da_nil))) ?_
    -- check_tail(even, 0, most)
    refine dss_expr (P := is .non) (de_call (fn_check_tail T (b := enE ts) (r := 0) (most := 11) fun x hx => by rw [enE_ok x hx]; decide) hr (da_cons (de_var 2) (da_cons de_int (da_cons (de_var 4) da_nil)))) ?_
    -- check_tail(odd, 1, most)
    refine dss_expr (P := is .non) (de_call (fn_check_tail T (b := enO ts) (r := 1) (most := 11) fun x hx => by rw [enO_ok x hx]; decide) hr (da_cons (de_var 3) (da_cons de_int (da_cons (de_var 4) da_nil)))) ?_
    -- self.tails = (tail_from(listed, even), tail_from(listed, odd))
    refine dss_fldO T.c_Sizes T.na_Sizes_tails List.mem_cons_self (de_var 0) (de_tup (da_cons (de_call (fn_tail_from T (b := enE ts) ls1 fun x hx => by rw [enE_ok x hx]; decide) hr (da_cons (de_var 1) (da_cons (de_var 2) da_nil))) (da_cons (de_call (fn_tail_from T (b := enO ts) ls1 fun x hx => by rw [enO_ok x hx]; decide) hr (da_cons (de_var 1) (da_cons (de_var 3) da_nil))) da_nil))) (by decide +kernel) ?_
    rw [putO_one]
    -- self.few = tuple([size for size in listed if not goes_on(self.tails, size)])
    refine dss_fldO T.c_Sizes T.na_Sizes_few List.mem_cons_self (de_var 0) (de_ty ca_tupL T.n_tuple boot_tuple (da_cons (de_lcF (own := [("size", 5)]) (js := [5]) (xs := lsd ts) (p := rI) (r := rI) (f := fun s => !gon (szE ts) (szO ts) s) (up := fun s G => G.set 5 (some (rI s))) sc_Sizes.nd (di_tup (de_var 1)) (blk_of (by kernel_rfl)) (by simp) (by omega) (fun s H C cl fp x hx => (dg_name 5 sc_Sizes.nd)) (fun s H C cl fp x hx => (dt_not (dt_val (de_call (fn_goes_on T) hr (da_cons (de_fldO 0 T.c_Sizes T.na_Sizes_tails List.mem_cons_self (de_var 0)) (da_cons (de_var 5) da_nil)))))) (fun s H C cl fp x hx hf => (de_var 5))) da_nil)) (by decide +kernel) ?_
    rw [putO_one]
    exact dss_nil nx_none
  exact ⟨fun vs H Q E ⟨x, h⟩ => (one x).len vs H Q E h, fun A outer s H args us vs Q E hr e0 hb r ⟨x, h⟩ => (one x).run A outer s H args us vs Q E hr e0 hb r h⟩
theorem sc_contains : FnScope ["self", "value"] ["self", "value"] (defScope (inClass (top 90) 5)) := ⟨rfl, rfl, rfl, by decide +kernel, rfl, by decide +kernel, by decide +kernel⟩
theorem mt_contains (T : Tx K w mg A) {ts : List Bool} {n : Int} : MtG P w K mg base A.sizes "__contains__" 2 [rSz K A ts, is (.int n)] [] [] (is (.bl (szIn ts n))) := by
  obtain ⟨f, fd, M, F⟩ := T.m_Sizes_contains
  refine ⟨f, M, fnr_of F sc_contains rfl (fun _ _ _ _ _ _ us hl => match us, hl with | [_, _], _ => rfl) fun cdv Ar outer s H E hr => ?_⟩
  -- return is_integer(value) and (value in self.few or goes_on(self.tails, value))
  refine dss_ret (de_eq (de_and (k := true) (l := szIn ts n) (de_call (fn_is_integer T) hr (da_cons (de_var 1) da_nil)) fun _ => (de_one (de_or (de_eq (de_cmp (od_inFT (x := .int n) (xs := (szF ts).map V.int) rfl (flat_ints _)) (de_var 1) (de_eq (P := rTu K ((szF ts).map rI)) (de_fld 1 T.c_Sizes T.na_Sizes_few (de_var 0)) (by rw [map_int_is]; rfl))) (by rw [inV_ints])) fun _ => (de_one (de_call (fn_goes_on T) hr (da_cons (de_fld 0 T.c_Sizes T.na_Sizes_tails (de_var 0)) (da_cons (de_var 1) da_nil))))))) (by rw [Bool.true_and])) (rt_same)
end
end
end SQ
end
section
set_option maxHeartbeats 400000
namespace SQ
open PySem PySem.Spec PyProof.Rows L2 StX ClX
noncomputable section
section
variable {P : Program} {w : World} {K : PySem.W.Frag} {mg : Str → Option Value} {base : Heap} {A : Ad}
def rB (b : Bool) : VP := is (.bl b)
theorem sc_sizes_where : FnScope ["truths", "many", "few", "size", "ends"] ["truths"] (defScope (top 93)) := ⟨rfl, rfl, rfl, by decide +kernel, rfl, by decide +kernel, by decide +kernel⟩
theorem fn_sizes_where (T : Tx K w mg A) {ts : List Bool} (hl : ts.length = 11) : FnG P w K mg base "sizes_where" 6 [rLi K (ts.map rB)] [] [] (rSz K A ts) :=
  fng_of T.d_sizes_where sc_sizes_where rfl (fun _ _ _ _ _ _ us hl => match us, hl with | [_], _ => rfl) fun f cdv Ar outer s H E hr => by
  have at_ : ∀ k : Nat, k < 11 → (ts.map rB)[k]? = some (rB (ts.getD k false)) := fun k hk => by
    rw [List.getElem?_map, List.getElem?_eq_getElem (by omega), List.getD_eq_getElem?_getD, List.getElem?_eq_getElem (by omega)]
    rfl
  -- many = len(truths)
  refine dss_set 1 (P := is (.int 11)) (de_eq (de_bi ca_lenL T.n_len boot_len (da_cons (de_var 0) da_nil)) (by rw [List.length_map, hl]; rfl)) ?_ sc_sizes_where.nd
  -- few = tuple([size for size in range(1, many - 1) if truths[size - 1]])
  refine dss_set 2 (P := rTu K ((lsd ts).map rI)) (de_eq (de_ty ca_tupL T.n_tuple boot_tuple (da_cons (de_lcF (own := [("size", 3)]) (js := [3]) (xs := List.range 9) (p := fun (k : Nat) => is (.int (1 + (k : Nat)))) (r := fun (k : Nat) => rI (1 + (k : Nat))) (f := fun (k : Nat) => ts.getD k false) (up := fun k G => G.set 3 (some (is (.int (1 + (k : Nat)))))) sc_sizes_where.nd (di_range2 (m := 1) (n := 10) T.n_range (da_cons de_int (da_cons (de_bin od_sub (de_var 1) de_int) da_nil)) (by decide)) (blk_of (by kernel_rfl)) (by simp) (by decide) (fun s H C cl fp x hx => (dg_name 3 sc_sizes_where.nd)) (fun s H C cl fp x hx => (dt_val (de_ixL (P := rB (ts.getD x false)) (de_var 0) (de_bin od_sub (de_var 3) de_int) (atI_k x (at_ x (by have := List.mem_range.mp hx; omega)) (by omega))))) (fun s H C cl fp x hx hf => (de_var 3))) da_nil)) ?_) ?_ sc_sizes_where.nd
  · have e : ((lsd ts).map rI) = ((List.range 9).filter fun (k : Nat) => ts.getD k false).map fun (k : Nat) => rI (1 + (k : Nat)) := by
      unfold lsd
      rw [List.map_map]
      refine List.map_congr_left fun k _ => ?_
      show rI ((k : Int) + 1) = _
      rw [Int.add_comm]
    rw [e]
    rfl
  -- ends = [size if truths[size - 1] else None for size in (many - 1, many)]
  refine dss_setLcA 4 (own := [("size", 3)]) (js := [3]) (xs := [((10 : Int), 9), (11, 10)]) (p := fun q => is (.int q.1)) (r := fun q => is (oV (if ts.getD q.2 false = true then some q.1 else none))) (up := fun q G => G.set 3 (some (is (.int q.1)))) sc_sizes_where.nd (di_tupV (xs := [.int 10, .int 11]) (de_tupV [.int 10, .int 11] (da_cons (de_bin od_sub (de_var 1) de_int) (da_cons (de_var 1) da_nil)))) (blk_of (by kernel_rfl)) (by simp) (by decide) (fun s H C cl fp x hx => (dg_name 3 sc_sizes_where.nd)) (fun s H C cl fp x hx => ?_) ?_
  · have hq : x.2 < 11 ∧ x.1 = (x.2 : Int) + 1 := by
      simp only [List.mem_cons, List.not_mem_nil, or_false] at hx
      rcases hx with rfl | rfl <;> decide
    refine de_if (dt_val (de_ixL (P := rB (ts.getD x.2 false)) (de_var 0) (de_bin od_sub (de_var 3) de_int) (atI_k x.2 (at_ _ hq.1) (by omega)))) (fun z => de_eq (de_var 3) (by rw [if_pos z]; rfl)) (fun z => de_eq de_non (by rw [if_neg (by rw [z]; decide)]; rfl))
  -- if int(many) % 2 == 1:
  refine dss_if (k := true) (dt_cmp od_eqI (de_bin (od_mod (by decide)) (de_ty ca_int T.n_int boot_int (da_cons (de_var 1) da_nil)) de_int) de_int) (fun hc => ?_) (fun z => nomatch z)
  obtain ⟨f, fd, g, M, hb, F⟩ := fnok_Sizes (P := P) (mg := mg) (base := base) T ts
  -- return Sizes(few, even=ends[0], odd=ends[1], most=many)
  refine dss_ret (P := rSz K A ts) ?_ rt_same
  exact (de_makeK (sp := fun _ _ _ _ _ => True) (Ps := [rTu K ((lsd ts).map rI)]) (Rs := [is (oV (enE ts)), is (oV (enO ts)), is (.int 11)]) (n := 1) (k := 4) M rfl T.v_Sizes F hr hb (fun _ _ => rfl) (da_cons (de_var 2) da_nil) (dk_cons (de_ixL (de_var 4) de_int (atI_k 0 rfl)) (dk_cons (de_ixL (de_var 4) de_int (atI_k 1 rfl)) (dk_cons (de_var 1) dk_nil))))
end
end
end SQ
end
section
set_option maxHeartbeats 400000
namespace SQ
open PySem PySem.Spec PyProof.Rows L2
abbrev Kind := Int × Int × Int
def kindL : List Kind := (List.range 24).map fun k => (((k / 12 : Nat) : Int), ((k / 4 % 3 : Nat) : Int), ((k % 4 : Nat) : Int))
def kk (k : Kind) : List Key := [.inl k.1, .inl k.2.1, .inl k.2.2]
def lsz (k : Kind) : Int := 2 * (k.1 + k.2.1) + k.2.2 + 1
def crn (k : Kind) : Cell := (k.1, k.1 + k.2.1)
theorem kk_inj {a b : Kind} (h : kk a = kk b) : a = b := by
  obtain ⟨a1, a2, a3⟩ := a
  obtain ⟨b1, b2, b3⟩ := b
  simp [kk] at h
  rw [h.1, h.2.1, h.2.2]
theorem kindL_nd : kindL.Nodup := by decide +kernel
theorem kindL_mem {k : Kind} : k ∈ kindL ↔ 0 ≤ k.1 ∧ k.1 ≤ 1 ∧ 0 ≤ k.2.1 ∧ k.2.1 ≤ 2 ∧ 0 ≤ k.2.2 ∧ k.2.2 ≤ 3 := by
  obtain ⟨a, b, c⟩ := k
  constructor
  · have : ∀ k ∈ kindL, 0 ≤ k.1 ∧ k.1 ≤ 1 ∧ 0 ≤ k.2.1 ∧ k.2.1 ≤ 2 ∧ 0 ≤ k.2.2 ∧ k.2.2 ≤ 3 := by decide +kernel
    exact this _
  · rintro ⟨h1, h2, h3, h4, h5, h6⟩
    have ea : a = 0 ∨ a = 1 := by simp only at h1 h2; omega
    have eb : b = 0 ∨ b = 1 ∨ b = 2 := by simp only at h3 h4; omega
    have ec : c = 0 ∨ c = 1 ∨ c = 2 ∨ c = 3 := by simp only at h5 h6; omega
    rcases ea with rfl | rfl <;> rcases eb with rfl | rfl | rfl <;> rcases ec with rfl | rfl | rfl | rfl <;> decide +kernel
theorem crn_in : ∀ k ∈ kindL, 0 ≤ (crn k).1 ∧ (crn k).1 < lsz k ∧ 0 ≤ (crn k).2 ∧ (crn k).2 < lsz k := by decide +kernel
theorem lk_kinds (r : Kind → VP) : ∀ {l : List Kind} {k : Kind}, k ∈ l → lkP (l.map fun k => (kk k, r k)) (kk k) = some (r k)
  | [], _, h => nomatch h
  | x :: l, k, h => by
    unfold lkP
    rw [List.map_cons, List.find?_cons]
    by_cases e : kk x = kk k
    · have := kk_inj e
      subst this
      simp
    · have e2 : x ≠ k := fun z => e (by rw [z])
      have h2 : k ∈ l := (List.mem_cons.mp h).elim (fun z => absurd z.symm e2) id
      have ih := lk_kinds r h2
      unfold lkP at ih
      simp [e]
      simpa using ih
theorem kd_in {n : Int} {c : Cell} (h : 0 ≤ c.1 ∧ c.1 < n ∧ 0 ≤ c.2 ∧ c.2 < n) : kd n c.1 c.2 ∈ kindL := by
  rw [kindL_mem]
  obtain ⟨pm, l1, l2⟩ := four (n := n) (r := c.1) (c := c.2)
  have h0 : 0 ≤ flo n c.1 c.2 := by
    have : flo n c.1 c.2 ∈ [c.1, c.2, n - 1 - c.1, n - 1 - c.2] := pm.mem_iff.mp List.mem_cons_self
    simp only [List.mem_cons, List.not_mem_nil, or_false] at this
    omega
  unfold kd imin
  dsimp only
  refine ⟨?_, ?_, ?_, ?_, ?_, ?_⟩ <;> split <;> omega
theorem orb_im {n i j : Int} : ∀ x ∈ orb n i j, ∀ s, s < 8 → im n x.1 x.2 s ∈ orb n i j := fun x hx s hs => by
  rw [← orb_orb hx]
  exact orb_mem.mpr (img_at s hs)
end SQ
end
section
set_option maxHeartbeats 400000
namespace SQ
open PySem PySem.Spec PyProof.Rows L2
/-! cells as data -/
def cD (c : Cell) : PyData := .tuple [.int c.1, .int c.2]
def csD (cs : List Cell) : PyData := .tuple (cs.map cD)
theorem dt_rC {K : PySem.W.Frag} {c : Cell} : Dt K (rC c) (cD c) := dt_tr (xs := cV c)
theorem dt_cells {K : PySem.W.Frag} {cs : List Cell} : Paired (Dt K) (cs.map rC) (cs.map cD) := paired_map fun c _ => dt_rC
theorem dt_csT {K : PySem.W.Frag} {cs : List Cell} : Dt K (rTu K (cs.map rC)) (csD cs) := dt_tu dt_cells
theorem cD_lay (c : Cell) : (cD c).canLay0 = true := by simp [cD, PyData.canLay0, PyData.canLayAll0]
theorem cD_dep (c : Cell) : (cD c).depth ≤ 3 := by simp [cD, PyData.depth, PyData.depthAll]
theorem layAll {α : Type} {f : α → PyData} (h : ∀ x, (f x).canLay0 = true) : ∀ xs : List α, PyData.canLayAll0 (xs.map f) = true
  | [] => rfl
  | x :: xs => by
    rw [List.map_cons, PyData.canLayAll0, h x, layAll h xs]
    rfl
theorem depAll {α : Type} {f : α → PyData} {n : Nat} (h : ∀ x, (f x).depth ≤ n) : ∀ xs : List α, PyData.depthAll (xs.map f) ≤ n
  | [] => by simp [PyData.depthAll]
  | x :: xs => by
    rw [List.map_cons, PyData.depthAll]
    have := h x
    have := depAll h xs
    omega
theorem csD_lay (cs : List Cell) : (csD cs).canLay0 = true := by
  unfold csD
  rw [PyData.canLay0]
  exact layAll cD_lay cs
theorem csD_dep (cs : List Cell) : (csD cs).depth ≤ 5 := by
  unfold csD
  rw [PyData.depth]
  have := depAll cD_dep cs
  omega
theorem sh_of {d : PyData} (h1 : d.canLay0 = true) {n : Nat} (h2 : d.depth ≤ n) (h3 : n ≤ 64) : SeqAt.shaped d = true := by
  unfold SeqAt.shaped
  rw [h1, decide_eq_true (Nat.le_trans h2 h3)]
  rfl
theorem sh_cD (c : Cell) : SeqAt.shaped (cD c) = true := sh_of (cD_lay c) (cD_dep c) (by decide)
theorem sh_csD (cs : List Cell) : SeqAt.shaped (csD cs) = true := sh_of (csD_lay cs) (csD_dep cs) (by decide)
theorem sh_csL (cs : List Cell) : SeqAt.shaped (.list (cs.map cD)) = true := by
  refine sh_of (n := 5) ?_ ?_ (by decide)
  · rw [PyData.canLay0]
    exact layAll cD_lay cs
  · rw [PyData.depth]
    have := depAll cD_dep cs
    omega
theorem eqv_cD (a b : Cell) : PyData.eqv (cD a) (cD b) = decide (a = b) := by
  obtain ⟨a1, a2⟩ := a
  obtain ⟨b1, b2⟩ := b
  simp only [cD, PyData.eqv, PyData.eqvAll]
  by_cases h1 : a1 = b1 <;> by_cases h2 : a2 = b2 <;> simp [h1, h2]
theorem eqv_csD : ∀ (as bs : List Cell), PyData.eqv (csD as) (csD bs) = decide (as = bs)
  | [], [] => rfl
  | [], b :: bs => by simp [csD, PyData.eqv, PyData.eqvAll]
  | a :: as, [] => by simp [csD, PyData.eqv, PyData.eqvAll]
  | a :: as, b :: bs => by
    have ih := eqv_csD as bs
    unfold csD at ih ⊢
    rw [PyData.eqv] at ih ⊢
    rw [List.map_cons, List.map_cons, PyData.eqvAll, eqv_cD, ih]
    by_cases h1 : a = b <;> by_cases h2 : as = bs <;> simp [h1, h2]
theorem any_cD (c : Cell) : ∀ cs : List Cell, ((cs.map cD).any fun z => PyData.eqv z (cD c)) = decide (c ∈ cs)
  | [] => by simp
  | x :: cs => by
    rw [List.map_cons, List.any_cons, any_cD c cs, eqv_cD]
    by_cases h1 : x = c
    · subst h1; simp
    · have h2 : ¬ c = x := fun z => h1 z.symm
      simp [h1, h2]
theorem alike_cD (a b : Cell) : PySem.W.alike (cD a) (cD b) = true := by simp [cD, PySem.W.alike, PySem.W.alikeAll]
theorem alike_csD : ∀ (as bs : List Cell), PySem.W.alike (csD as) (csD bs) = true
  | [], bs => by simp [csD, PySem.W.alike, PySem.W.alikeAll]
  | a :: as, [] => by simp [csD, PySem.W.alike, PySem.W.alikeAll]
  | a :: as, b :: bs => by
    have ih := alike_csD as bs
    unfold csD at ih ⊢
    rw [PySem.W.alike] at ih ⊢
    rw [List.map_cons, List.map_cons, PySem.W.alikeAll, alike_cD, ih]
    rfl
/-- the index of a cell -/
theorem idx_no {cs : List Cell} {c : Cell} (hc : c ∈ cs) : (cs.map cD)[cs.idxOf c]? = some (cD c) ∧ ∀ (m : Nat) (z : PyData), m < cs.idxOf c → (cs.map cD)[m]? = some z → PyData.eqv z (cD c) = false := by
  have hl := List.idxOf_lt_length_iff.mpr hc
  refine ⟨by rw [List.getElem?_map, List.getElem?_eq_getElem hl, List.getElem_idxOf]; rfl, fun m z hm hz => ?_⟩
  have hml : m < cs.length := by omega
  rw [List.getElem?_map, List.getElem?_eq_getElem hml] at hz
  cases hz
  rw [eqv_cD, decide_eq_false]
  intro e
  have := List.not_of_lt_findIdx (p := (· == c)) (xs := cs) (i := m) hm
  rw [e] at this
  simp at this
end SQ
end
section
set_option maxHeartbeats 400000
namespace SQ
open PySem PySem.Spec PyProof.Rows L2 StX ClX
noncomputable section
section
variable {X : Cx}
theorem sw_trueD {kx vx : Expr} {gs : List Comprehension} {scope : Scope} {pos py : Pos} {y : Str} {l : Nat} {env : Env} (hk : env.scope.kind = .function) (hy : env.scope.names.lookup y = some .local) (hl : (py.line == pos.line) = true)
    (ha : (scope.names.any fun (n, k) => n == y && (k == .local || k == .cell)) = false) : swapsWith (.DictComp kx vx gs scope pos) (some (.Name y py)) l env = pure true := by
  have ky : env.kindOf y = some .local := hy
  have hb : env.blockKind = .function := by unfold Env.blockKind; rw [hk]; rfl
  unfold swapsWith
  simp only [hb, ky, ha, Expr.pos, hl]
  rfl
theorem ps_setDcT {i : Nat} {y : Str} {py : Pos} {kx vx tg iter : Expr} {ifs : List Expr} {scope : Scope} {own : List (Str × Nat)} {pos spos : Pos} {wi : TI} {g : TG} {tt : TT} {tk tv : TE} {hf : List Key → Int} (hh : (tupleKind (mixKind X.prog X.w)).hash = hf) (hu : X.A.units + 1 < cLine) (hc : X.calm = true) (hN : X.N.Nodup) (hy : X.N[i]? = some y) (hyl : X.env.scope.names.lookup y = some .local)
    (hsw : swapsWith (.DictComp kx vx [⟨tg, iter, ifs, 0⟩] scope pos) (some (.Name y py)) spos.line X.env = pure true) (hi : PI X tg iter wi) (ok : BlkOk X.N X.env.scope scope own)
    (hg : ∀ (s : Shared) (H : Hp) (C : Addr) (cl : List (Str × Addr)) (fp : List Addr), PG (X.blk s H scope (compEnvC scope cl C X.env) fp) tg g) (ht : ∀ (s : Shared) (H : Hp) (C : Addr) (cl : List (Str × Addr)) (fp : List Addr), PTs (X.blk s H scope (compEnvC scope cl C X.env) fp) ifs tt)
    (hk : ∀ (s : Shared) (H : Hp) (C : Addr) (cl : List (Str × Addr)) (fp : List Addr), PE (X.blk s H scope (compEnvC scope cl C X.env) fp) kx tk)
    (he : ∀ (s : Shared) (H : Hp) (C : Addr) (cl : List (Str × Addr)) (fp : List Addr), PE (X.blk s H scope (compEnvC scope cl C X.env) fp) vx tv) (hs : ∀ x, foldedSetIterable iter X.env x = pure x := by intro _; rfl) :
    PS X (.Assign [.Name y py] (.DictComp kx vx [⟨tg, iter, ifs, 0⟩] scope pos) spos) (tAsg (tDcT X.K hf wi g tt tk tv (own.map (·.2))) (gName i)) := by
  refine ⟨fun pins s σ H D I h => ?_⟩
  rw [exec_Assign_Name_used _ _ _ _ hsw]
  refine wpAny_bind (wpAny_standAt (wpAny_bind ?_))
  show wpAny _ X.A (do let _ ← comprehension (.DictComp kx vx [⟨tg, iter, ifs, 0⟩] scope pos) scope X.env (firstIterPos [⟨tg, iter, ifs, 0⟩] pos) newDict false (eval iter X.env) (some (assign (.Name y py) X.env))) _ _ s
  have h : tDcT X.K hf wi g tt tk tv (own.map (·.2)) σ H (fun x H1 => gName i x σ H1 D.nx) := h
  refine wpAny_bind (thn (dcT_core (Qf := fun _ s' => SP X pins D .next s') hh hu hc hN I hi ok hg ht hk he hs h fun L C s' m H' I' q hn f => ?_) fun _ s' hq => wpAny_pure (wpAny_pure hq))
  show wpAny _ _ (assign (.Name y py) X.env (.ref L)) _ _ _
  refine wpAny_assign_Name (store_ok2 (v := V.ref L) I' hN hy (.inl hyl) rfl (fun s2 I2 ⟨a, sb, ha⟩ => ?_) (.inr hyl))
  obtain ⟨f0, f1, f2, f3, f4, f5⟩ := f
  have haC : C ≠ a := by
    rcases ha with z | z
    · rw [z]; exact f1
    · exact fun e => f4 y a z e.symm
  refine ⟨m, hn.sameBut sb haC, fun h3 sb3 => ?_⟩
  exact ⟨_, H', I2.turned (t' := s2.toks) (fun b o hb e => (sb3.2 b hb).trans e) f0 f1 f3 f4 f5, q⟩
end
section
variable {X : Cx} {G : Gm} {W : Ow} {D : DEn} {rest : List Stmt} {kx vx tg iter : Expr} {scope : Scope} {own : List (Str × Nat)} {js : List Nat} {pos spos py : Pos}
theorem dss_setDc {hf : List Key → Int} (hh : (tupleKind (mixKind X.prog X.w)).hash = hf) (i : Nat) {y : Str} {α : Type} {xs : List α} {p : α → VP} {ky : α → List Key} {r : α → VP} {up : α → Gm → Gm} {k : Nat} (hr : Room k X.A) (hN : X.N.Nodup) (hi : DI X G W tg iter (xs.map p)) (L : DcOk X G W xs p ky r kx vx tg scope own js up)
    (h : DSs X (G.set i (some (rDk X.K hf (xs.map fun x => (ky x, r x))))) W rest D) (hy : X.N[i]? = some y := by rfl) (hyl : X.env.scope.names.lookup y = some .local := by rfl)
    (hsw : swapsWith (.DictComp kx vx [⟨tg, iter, [], 0⟩] scope pos) (some (.Name y py)) spos.line X.env = pure true := by exact sw_trueD rfl rfl rfl (by decide +kernel)) (hc : X.calm = true := by rfl) (hs : ∀ x, foldedSetIterable iter X.env x = pure x := by intro _; rfl) :
    DSs X G W (.Assign [.Name y py] (.DictComp kx vx [⟨tg, iter, [], 0⟩] scope pos) spos :: rest) D :=
  dss_cons (PS.to (ps_setDcT hh (by have := hr.un; omega) hc hN hy hyl hsw hi L.ok
    (g := fun v s H Q => ∃ x ∈ xs, tG (p x) js (up x) v s H Q)
    (tt := fun s H Q => tT G W true s H Q ∨ ∃ x ∈ xs, tT (up x (wipeG G (own.map (·.2)))) W true s H Q)
    (tk := fun s H Q => ∃ x ∈ xs, tD (up x (wipeG G (own.map (·.2)))) W W (rTu X.K (((ky x).map kV).map is)) s H Q)
    (tv := fun s H Q => ∃ x ∈ xs, tD (up x (wipeG G (own.map (·.2)))) W W (r x) s H Q)
    (fun s H C cl fp => ⟨fun pins s σ H v u Q I rr ⟨x, hx, q⟩ => (L.tg _ _ C cl fp x hx).run pins s σ H v u Q I rr q⟩)
    (fun s H C cl fp => ⟨fun pins s σ H Q I q => by
      rcases q with q | ⟨x, hx, q⟩
      · exact (dts_nil (G := G) (W := W)).run pins s σ H Q I q
      · exact (dts_nil (G := up x (wipeG G (own.map (·.2)))) (W := W)).run pins s σ H Q I q⟩)
    (fun s H C cl fp => ⟨fun pins s σ H Q I ⟨x, hx, q⟩ => (L.key _ _ C cl fp x hx).run pins s σ H Q I q⟩)
    (fun s H C cl fp => ⟨fun pins s σ H Q I ⟨x, hx, q⟩ => (L.val _ _ C cl fp x hx).run pins s σ H Q I q⟩) hs) fun E s H ⟨c, S, eo⟩ =>
      dc_read (Q := fun v H' => E.nx (s.set i (some v)) H') L.jsOk L.sz L.nd ⟨c, S, fun v H' S' e' b => eo.nx _ W _ H' h (S'.setE i b)⟩)
end
end
end SQ
end
section
set_option maxHeartbeats 400000
namespace SQ
open PySem PySem.Spec PyProof.Rows L2 StX ClX
noncomputable section
/-! the kinds' tuples are the module's own -/
def KT (_ : Ad) (_ : Hp) : Prop := True
def rKT (A : Ad) (P : VP) : VP := fun v H => Bx P v H ∧ KT A H
theorem kt_un {A : Ad} {P : VP} {v : V} {H : Hp} (h : Bx (rKT A P) v H) : Bx P v H := h.here.1
section
variable {X : Cx} {G : Gm} {W W' : Ow} {e : Expr} {P P0 : VP} {A : Ad} {pos : Pos}
theorem de_un (h : DX X G W W' e (rKT A P)) : DX X G W W' e P := de_to h fun v H b => kt_un b
theorem de_kt (i : Nat) (h : DX X G W W' e P) (hG : G[i]? = some (some (rKT A P0)) := by rfl) : DX X G W W' e (rKT A P) := PE.to h fun s H Q ⟨c, S, q⟩ => ⟨c, S, fun v H' S' e' b => by
  obtain ⟨u, _, bu⟩ := S'.env.2 i _ hG
  exact q v H' S' e' fun H2 e2 => ⟨b.mono e2, (bu H2 e2).2⟩⟩
theorem de_kinds (T : Gt X.K X.mg "KINDS" (A.kr.map V.ref)) (kl : A.kr.length = 24) (kk : ∀ (i : Nat) (a : Addr), A.kr[i]? = some a → KTup X.K a [.int ((i / 12 : Nat) : Int), .int ((i / 4 % 3 : Nat) : Int), .int ((i % 4 : Nat) : Int)]) (hg : Gl X "KINDS" := by rfl) : DE X G W (.Name "KINDS" pos) (rTu X.K (kindL.map fun k => rTu X.K ((kdV k).map is))) := by
  obtain ⟨a, h1, h2⟩ := T
  refine PE.to (de_ktup (W := W) (G := G) h1 h2 hg (by decide)) fun s H Q ⟨c, S, q⟩ => ⟨c, S, fun v H' S' e' b => ?_⟩
  refine q v H' S' e' ?_
  obtain ⟨p, us, rfl, hq, r⟩ := b.here
  refine bx_tu hq ?_
  have eu : us = A.kr.map V.ref := bxs_is r
  subst eu
  have hkl : kindL.length = 24 := by decide +kernel
  refine paired_of_at (by rw [List.length_map, List.length_map, hkl, kl]) fun j P v hP hv => ?_
  rw [List.getElem?_map] at hP hv
  cases hk : kindL[j]? with
  | none => rw [hk] at hP; cases hP
  | some k =>
    cases ha : A.kr[j]? with
    | none => rw [ha] at hv; cases hv
    | some b =>
      rw [hk] at hP
      rw [ha] at hv
      cases hP
      cases hv
      have hj : j < 24 := by rw [← kl]; exact (List.getElem?_eq_some_iff.mp ha).1
      have ek : k = (((j / 12 : Nat) : Int), ((j / 4 % 3 : Nat) : Int), ((j % 4 : Nat) : Int)) := by
        unfold kindL at hk
        rw [List.getElem?_map, List.getElem?_range hj] at hk
        exact (Option.some.inj hk).symm
      rw [ek]
      exact bx_tu (.inr (kk j b ha)) (is_bxs _)
where
  paired_of_at {F : VP → V → Prop} : ∀ {l : List VP} {m : List V}, l.length = m.length → (∀ (j : Nat) P v, l[j]? = some P → m[j]? = some v → F P v) → Paired F l m
    | [], [], _, _ => .nil
    | P :: l, v :: m, h, f => .cons (f 0 P v rfl rfl) (paired_of_at (by simpa using h) fun j P v h1 h2 => f (j + 1) P v h1 h2)
    | [], _ :: _, h, _ => by simp at h
    | _ :: _, [], h, _ => by simp at h
end
/-- an action -/
def rAc (K : PySem.W.Frag) (A : Ad) (mf : Kind → List Int) (ts : List Bool) : VP := rIn A.action ["moves", "gaps"] [rDk K A.hs (kindL.map fun k => (kk k, rTu K ((mf k).map rI))), rSz K A ts]
def movK (Ns : List LN) (k : Kind) : List Int := mov Ns (lsz k) (orb (lsz k) (crn k).1 (crn k).2)
def falL (Ns : List LN) : List Bool := (List.range 11).map fun (k : Nat) => fal Ns (1 + (k : Nat))
section
variable {P : Program} {w : World} {K : PySem.W.Frag} {mg : Str → Option Value} {base : Heap} {A : Ad}
theorem sc_Action : FnScope ["self", "moves", "gaps"] ["self", "moves", "gaps"] (defScope (inClass (top 97) 0)) := ⟨rfl, rfl, rfl, by decide +kernel, rfl, by decide +kernel, by decide +kernel⟩
theorem ini_Action (T : Tx K w mg A) {P1 P2 : VP} : IniG P w K mg base A.action 1 [P1, P2] ["moves", "gaps"] [P1, P2] := by
  obtain ⟨f, fd, M, F⟩ := T.i_Action
  refine ⟨f, M, fun x => fnr_of F sc_Action rfl (fun _ _ _ _ _ _ us hl => match us, hl with | [_, _, _], _ => rfl) fun cdv Ar outer s H E hr => ?_⟩
  refine dss_fldO T.c_Action T.na_Action_moves List.mem_cons_self (de_var 0) (de_var 1) (by decide +kernel) ?_
  rw [putO_one]
  refine dss_fldO T.c_Action T.na_Action_gaps List.mem_cons_self (de_var 0) (de_var 2) (by decide +kernel) ?_
  rw [putO_one]
  exact dss_nil nx_none
theorem ky_kd {K : PySem.W.Frag} (k : Kind) : rTu K ((kdV k).map is) = rTu K (((kk k).map kV).map is) := rfl
theorem sc_Action_of : FnScope ["cls", "program", "moves", "kind", "size"] ["cls", "program"] (defScope (inClass (top 97) 1)) := ⟨rfl, rfl, rfl, by decide +kernel, rfl, by decide +kernel, by decide +kernel⟩
theorem cm_of (T : Tx K w mg A) {Ns : List LN} (hN : ∀ N ∈ Ns, LN.ok N) : CMG P w K mg base A.action "of" 7 [rKT A (rP K A Ns)] (rAc K A (movK Ns) (falL Ns)) := by
  obtain ⟨mc, pr, g, fd, h1, h2, F⟩ := T.cm_of
  refine ⟨mc, pr, g, h1, h2, fnr_of F sc_Action_of rfl (fun _ _ _ _ _ _ us hl => match us, hl with | [_, _], _ => rfl) fun cdv Ar outer s H E hr => ?_⟩
  -- check_program(program)
  refine dss_expr (P := is .non) (de_call (fn_check_program T (Ns := Ns)) hr (da_cons (de_un (de_var 1)) da_nil)) ?_
  -- moves = {kind: effect_on(program, least_size(kind), corner(kind)) for kind in KINDS}
  refine dss_setDc (hf := A.hs) (hs_x T) 2 (xs := kindL) (p := fun k => rTu K ((kdV k).map is)) (ky := kk) (r := fun k => rTu K ((movK Ns k).map rI)) (own := [("kind", 3)]) (js := [3]) (up := fun k G => G.set 3 (some (rTu K ((kdV k).map is)))) hr sc_Action_of.nd (di_tup (de_kinds T.g_KINDS T.krl T.krk)) ⟨blk_of (by kernel_rfl), by simp, by decide +kernel, ?_, fun s H C cl fp x hx => dg_name 3 sc_Action_of.nd, fun s H C cl fp x hx => de_eq (de_var 3) (ky_kd x), fun s H C cl fp x hx => ?_⟩ ?_
  · exact List.pairwise_map.mpr (kindL_nd.imp fun n e => n (kk_inj e))
  · exact de_call (fn_effect_on T (n := lsz x) (c := crn x) hN (crn_in x hx) orb_im (orb_len _ _ _)) hr (da_cons (de_un (de_var 1)) (da_cons (de_call (fn_least_size T (a := x.1) (b := x.2.1) (c := x.2.2)) hr (da_cons (de_var 3) da_nil)) (da_cons (de_call (fn_corner T (a := x.1) (b := x.2.1) (c := x.2.2)) hr (da_cons (de_var 3) da_nil)) da_nil)))
  -- return cls(moves, sizes_where([falls_at(program, size) for size in range(1, DECIDING + 1)]))
  refine dss_ret (de_make (ini_Action T) hr (de_var 0) (da_cons (de_var 2) (da_cons (de_call (fn_sizes_where T (ts := falL Ns) (by simp [falL])) hr (da_cons (de_eq (de_lcA (own := [("size", 4)]) (js := [4]) (xs := List.range 11) (p := fun (k : Nat) => is (.int (1 + (k : Nat)))) (r := fun (k : Nat) => rB (fal Ns (1 + (k : Nat)))) (up := fun k G => G.set 4 (some (is (.int (1 + (k : Nat)))))) sc_Action_of.nd (di_range2 (m := 1) (n := 12) T.n_range (da_cons de_int (da_cons (de_bin od_add (de_gv T.g_DECIDING) de_int) da_nil)) (by decide)) (blk_of (by kernel_rfl)) (by simp) (by decide) (fun s H C cl fp x hx => (dg_name 4 sc_Action_of.nd)) (fun s H C cl fp x hx => (de_call (fn_falls_at T hN (by omega)) hr (da_cons (de_un (de_var 1)) (da_cons (de_var 4) da_nil))))) (by rw [falL, List.map_map]; rfl)) da_nil)) da_nil))) (rt_same)
end
end
end SQ
end
section
set_option maxHeartbeats 400000
namespace SQ
open PySem PySem.Spec PyProof.Rows L2 StX ClX
noncomputable section
theorem bts_lt {x : Int} {N k : Nat} (h0 : 0 ≤ x) (h : x < 2 ^ N) (hk : k ∈ bts x) : k < N := by
  have q := (List.mem_filter.mp hk).2
  have q2 : (x / 2 ^ k) % 2 = 1 := of_decide_eq_true q
  refine Nat.not_le.mp fun z => ?_
  have e1 : ((2 : Int) ^ k) = ((2 ^ k : Nat) : Int) := by push_cast; rfl
  have e2 : ((2 : Int) ^ N) = ((2 ^ N : Nat) : Int) := by push_cast; rfl
  have h3 : 2 ^ N ≤ 2 ^ k := Nat.pow_le_pow_right (by decide) z
  have z2 : x < 2 ^ k := by omega
  rw [Int.ediv_eq_zero_of_lt h0 z2] at q2
  cases q2
/-- the cells of the formula, in order of the sorting -/
def tmC (cs : List Cell) (ct : Nat) : List Cell := (bts (ct : Int)).map fun k => cs.getD k (0, 0)
def fml (cs : List Cell) (ms : List Int) (e : Nat) : List (List Cell) := ((lcs ms e).map (tmC cs)).mergeSort (PySem.W.dataLe false csD)
def rchC (cs : List Cell) (ms : List Int) (e : Nat) : List Cell := (bts (rbF ms e ms.length)).map fun k => cs.getD k (0, 0)
def rCs (K : PySem.W.Frag) (cs : List Cell) : VP := rTu K (cs.map rC)
section
variable {P : Program} {w : World} {K : PySem.W.Frag} {mg : Str → Option Value} {base : Heap} {A : Ad}
theorem rb_nn {ms : List Int} (h : ∀ y ∈ ms, 0 ≤ y) (e m : Nat) : 0 ≤ rbF ms e m := by
  have nn : ∀ x : Int, 0 ≤ mvf ms x := fun x => by
    unfold mvf
    rw [List.getD_eq_getElem?_getD]
    cases q : ms[x.toNat]? with
    | none => exact Int.le_refl 0
    | some y => exact h y (List.mem_of_getElem? q)
  induction m with
  | zero => exact Int.le_refl 0
  | succ m ih =>
    have sn : rbF ms e (m + 1) = if bitN (m : Int) e = 0 then Builtin.bitOr (rbF ms e m) (Builtin.bitXor (mvf ms m) (mvf ms (m + 2 ^ e))) else rbF ms e m := by
      unfold rbF
      rw [List.range_succ, List.foldl_append]
      rfl
    rw [sn]
    split
    · exact Bits.bitOr_nonneg ih (Bits.bitXor_nonneg (nn _) (nn _))
    · exact ih
theorem sc_result : FnScope ["self", "size", "cell", "cells", "contents", "k", "content"] ["self", "size", "cell"] (defScope (inClass (top 97) 5)) := ⟨rfl, rfl, rfl, by decide +kernel, rfl, by decide +kernel, by decide +kernel⟩
theorem mt_result (T : Tx K w mg A) {mf : Kind → List Int} {ts : List Bool} {n : Int} {c : Cell} (hn : 1 ≤ n ∧ n ≤ 10 ^ 30) (h : 0 ≤ c.1 ∧ c.1 < n ∧ 0 ≤ c.2 ∧ c.2 < n) (hg : szIn ts n = false)
    (hl : (mf (kd n c.1 c.2)).length = 2 ^ (orb n c.1 c.2).length) (hne : ∀ ct ∈ lcs (mf (kd n c.1 c.2)) ((orb n c.1 c.2).idxOf c), bts (ct : Int) ≠ []) :
    MtG P w K mg base A.action "result" 5 [rAc K A mf ts, is (.int n), rC c] [] [] (rTu K ((fml (orb n c.1 c.2) (mf (kd n c.1 c.2)) ((orb n c.1 c.2).idxOf c)).map (rCs K))) := by
  obtain ⟨f, fd, M, F⟩ := T.m_Action_result
  refine ⟨f, M, fnr_of F sc_result rfl (fun _ _ _ _ _ _ us hl => match us, hl with | [_, _, _], _ => rfl) fun cdv Ar outer s H E hr => ?_⟩
  have b2 : ∀ k, k ≤ 8 → 2 ^ k ≤ 256 := by decide +kernel
  have nd := orb_nd n c.1 c.2
  have hz := orb_len n c.1 c.2
  have hself : c ∈ orb n c.1 c.2 := orb_self n c.1 c.2
  have hkd := kd_in h
  have him := fn_images_of (P := P) (base := base) T h
  generalize orb n c.1 c.2 = cs at *
  obtain ⟨ix1, ix2⟩ := idx_no hself
  -- check_size(size)
  refine dss_expr (P := is .non) (de_call (fn_check_size T hn) hr (da_cons (de_var 1) da_nil)) ?_
  -- check_cell(size, cell)
  refine dss_expr (P := is .non) (de_call (fn_check_cell T h) hr (da_cons (de_var 1) (da_cons (de_var 2) da_nil))) ?_
  -- if size in self.gaps:
  refine dss_ifF (dt_eq (dt_inOwn (mt_contains T (ts := ts) (n := n)) hr (de_var 1) (de_fld 1 T.c_Action T.na_Action_gaps (de_var 0))) hg) ?_
  -- cells = images_of(size, cell)
  refine dss_set 3 (P := rTf K (cs.map rC)) (de_call him hr (da_cons (de_var 1) (da_cons (de_var 2) da_nil))) ?_ sc_result.nd
  have hl2 := b2 _ hz
  generalize hms : mf (kd n c.1 c.2) = ms at *
  -- contents = least_contents(self.moves[found_kind(size, cell)], cells.index(cell))
  refine dss_set 4 (P := rLi K ((lcs ms (cs.idxOf c)).map fun (k : Nat) => rI (k : Int))) (de_call (fn_least_contents T (ms := ms) (e := cs.idxOf c) (by omega)) hr (da_cons (de_dgetK (hs_x T) (ky := kk (kd n c.1 c.2)) hr (de_fld 0 T.c_Action T.na_Action_moves (de_var 0)) (de_eq (de_to (de_call (fn_found_kind T) hr (da_cons (de_var 1) (da_cons (de_var 2) da_nil))) fun _ _ b => tr_tu b) (ky_kd _)) (by rw [lk_kinds _ hkd, hms])) (da_cons (de_tindex (cs.idxOf c) hr dt_cells (dt_rC (c := c)) (sh_csL cs) (sh_cD c) ix1 (by rw [eqv_cD]; simp) ix2 (de_var 3) (de_var 2)) da_nil))) ?_ sc_result.nd
  have hct : ∀ ct ∈ lcs ms (cs.idxOf c), ct < 2 ^ cs.length := fun ct hct => by
    have := List.mem_range.mp (List.mem_filter.mp hct).1
    omega
  have hlen : (lcs ms (cs.idxOf c)).length ≤ 256 := by
    have := List.length_filter_le (lcT ms (cs.idxOf c)) (List.range ms.length)
    rw [List.length_range] at this
    show (List.filter _ _).length ≤ _
    omega
  have e2 : ((2 : Int) ^ cs.length) = ((2 ^ cs.length : Nat) : Int) := by push_cast; rfl
  -- return tuple(sorted([tuple([cells[k] for k in bits_of(content)]) for content in contents]))
  refine dss_ret (de_ty ca_tupL T.n_tuple boot_tuple (da_cons (de_bi (ca_sortD ((lcs ms (cs.idxOf c)).map (tmC cs)) (rCs K) csD hr (fun b _ => dt_csT) (PySem.W.AllAlike.of alike_csD) ?_ (fun b _ => Nat.le_trans (csD_dep b) (by decide))) T.n_sorted boot_sorted (da_cons (de_eq (de_lcA (own := [("content", 6)]) (js := [6]) (xs := lcs ms (cs.idxOf c)) (p := fun (k : Nat) => rI (k : Int)) (r := fun ct => rCs K (tmC cs ct)) (up := fun k G => G.set 6 (some (rI (k : Int)))) sc_result.nd (di_list (de_var 4)) (blk_of (by kernel_rfl)) (by simp) (by omega) (fun s H C cl fp x hx => (dg_name 6 sc_result.nd)) (fun s H C cl fp ct hx => (de_eq (de_ty ca_tupL T.n_tuple boot_tuple (da_cons (de_lcA (own := [("k", 5)]) (js := [5]) (xs := bts (ct : Int)) (p := fun (k : Nat) => rI (k : Int)) (r := fun k => rC (cs.getD k (0, 0))) (up := fun k G => G.set 5 (some (rI (k : Int)))) sc_result.nd (di_list (de_call (fn_bits_of T) hr (da_cons (de_var 6) da_nil))) (blk_of (by kernel_rfl)) (by simp) (Nat.le_trans (List.length_filter_le _ _) (by decide)) (fun s H C cl fp x hx => (dg_name 5 sc_result.nd)) (fun s H C cl fp k hk => (de_ixT (i := (k : Int)) (de_to (de_var 3) fun v H b => tf_tu b) (de_var 5) (atI_k k ?_)))) da_nil)) (by rw [rCs, tmC, List.map_map]; rfl)))) (by rw [List.map_map]; rfl)) da_nil)) da_nil)) (rt_same)
  · refine .inl fun d hd => ?_
    obtain ⟨b, hb, rfl⟩ := List.mem_map.mp hd
    obtain ⟨ct, hct2, rfl⟩ := List.mem_map.mp hb
    have := hne ct hct2
    unfold csD tmC
    cases q : bts (ct : Int) with
    | nil => exact absurd q this
    | cons x r => exact ⟨_, _, rfl⟩
  · have hk2 : k < cs.length := bts_lt (Int.natCast_nonneg ct) (by rw [e2]; exact Int.ofNat_lt.mpr (hct ct hx)) hk
    rw [List.getElem?_map, List.getElem?_eq_getElem hk2, List.getD_eq_getElem?_getD, List.getElem?_eq_getElem hk2]
    rfl
theorem sc_reaches : FnScope ["self", "size", "cell", "cells", "k"] ["self", "size", "cell"] (defScope (inClass (top 97) 6)) := ⟨rfl, rfl, rfl, by decide +kernel, rfl, by decide +kernel, by decide +kernel⟩
theorem mt_reaches (T : Tx K w mg A) {mf : Kind → List Int} {ts : List Bool} {n : Int} {c : Cell} (hn : 1 ≤ n ∧ n ≤ 10 ^ 30) (h : 0 ≤ c.1 ∧ c.1 < n ∧ 0 ≤ c.2 ∧ c.2 < n) (hg : szIn ts n = false)
    (hl : (mf (kd n c.1 c.2)).length = 2 ^ (orb n c.1 c.2).length) (hb : ∀ k ∈ bts (rbF (mf (kd n c.1 c.2)) ((orb n c.1 c.2).idxOf c) (mf (kd n c.1 c.2)).length), k < (orb n c.1 c.2).length) :
    MtG P w K mg base A.action "reaches" 5 [rAc K A mf ts, is (.int n), rC c] [] [] (rCs K (rchC (orb n c.1 c.2) (mf (kd n c.1 c.2)) ((orb n c.1 c.2).idxOf c))) := by
  obtain ⟨f, fd, M, F⟩ := T.m_Action_reaches
  refine ⟨f, M, fnr_of F sc_reaches rfl (fun _ _ _ _ _ _ us hl => match us, hl with | [_, _, _], _ => rfl) fun cdv Ar outer s H E hr => ?_⟩
  have hz := orb_len n c.1 c.2
  have hself : c ∈ orb n c.1 c.2 := orb_self n c.1 c.2
  have hkd := kd_in h
  have him := fn_images_of (P := P) (base := base) T h
  generalize orb n c.1 c.2 = cs at *
  obtain ⟨ix1, ix2⟩ := idx_no hself
  have he := List.idxOf_lt_length_iff.mpr hself
  -- check_size(size)
  refine dss_expr (P := is .non) (de_call (fn_check_size T hn) hr (da_cons (de_var 1) da_nil)) ?_
  -- check_cell(size, cell)
  refine dss_expr (P := is .non) (de_call (fn_check_cell T h) hr (da_cons (de_var 1) (da_cons (de_var 2) da_nil))) ?_
  -- if size in self.gaps:
  refine dss_ifF (dt_eq (dt_inOwn (mt_contains T (ts := ts) (n := n)) hr (de_var 1) (de_fld 1 T.c_Action T.na_Action_gaps (de_var 0))) hg) ?_
  -- cells = images_of(size, cell)
  refine dss_set 3 (P := rTf K (cs.map rC)) (de_call him hr (da_cons (de_var 1) (da_cons (de_var 2) da_nil))) ?_ sc_reaches.nd
  generalize hms : mf (kd n c.1 c.2) = ms at *
  -- return tuple([cells[k] for k in reached_bits(self.moves[found_kind(size, cell)], cells.index(cell))])
  refine dss_ret (de_eq (de_ty ca_tupL T.n_tuple boot_tuple (da_cons (de_lcA (own := [("k", 4)]) (js := [4]) (xs := bts (rbF ms (cs.idxOf c) ms.length)) (p := fun (k : Nat) => rI (k : Int)) (r := fun k => rC (cs.getD k (0, 0))) (up := fun k G => G.set 4 (some (rI (k : Int)))) sc_reaches.nd (di_list (de_call (fn_reached_bits T (ms := ms) (N := cs.length) (e := cs.idxOf c) hl hz he) hr (da_cons (de_dgetK (hs_x T) (ky := kk (kd n c.1 c.2)) hr (de_fld 0 T.c_Action T.na_Action_moves (de_var 0)) (de_eq (de_to (de_call (fn_found_kind T) hr (da_cons (de_var 1) (da_cons (de_var 2) da_nil))) fun _ _ b => tr_tu b) (ky_kd _)) (by rw [lk_kinds _ hkd, hms])) (da_cons (de_tindex (cs.idxOf c) hr dt_cells (dt_rC (c := c)) (sh_csL cs) (sh_cD c) ix1 (by rw [eqv_cD]; simp) ix2 (de_var 3) (de_var 2)) da_nil)))) (blk_of (by kernel_rfl)) (by simp) (Nat.le_trans (List.length_filter_le _ _) (by decide)) (fun s H C cl fp x hx => (dg_name 4 sc_reaches.nd)) (fun s H C cl fp k hk => (de_ixT (i := (k : Int)) (de_to (de_var 3) fun v H b => tf_tu b) (de_var 4) (atI_k k ?_)))) da_nil)) (by rw [rCs, rchC, List.map_map]; rfl)) (rt_same)
  have hk2 : k < cs.length := hb k hk
  rw [List.getElem?_map, List.getElem?_eq_getElem hk2, List.getD_eq_getElem?_getD, List.getElem?_eq_getElem hk2]
  rfl
theorem sc_times : FnScope ["self", "power", "kind"] ["self", "power"] (defScope (inClass (top 97) 8)) := ⟨rfl, rfl, rfl, by decide +kernel, rfl, by decide +kernel, by decide +kernel⟩
theorem mt_times (T : Tx K w mg A) {mf : Kind → List Int} {ts : List Bool} {p : Nat} (hp : p ≤ 10 ^ 30) (hm : ∀ k ∈ kindL, MvOk (mf k) ∧ (mf k).length ≤ 256) :
    MtG P w K mg base A.action "times" 4 [rAc K A mf ts, rKT A (is (.int p))] [] [] (rAc K A (fun k => rep (mf k) p) ts) := by
  obtain ⟨f, fd, M, F⟩ := T.m_Action_times
  refine ⟨f, M, fnr_of F sc_times rfl (fun _ _ _ _ _ _ us hl => match us, hl with | [_, _], _ => rfl) fun cdv Ar outer s H E hr => ?_⟩
  -- if not within_values(power, 0, MOST_POWER):
  refine dss_ifF (dt_not (k := true) (dt_val (de_eq (de_call (fn_within_values T (v := p)) hr (da_cons (de_un (de_var 1)) (da_cons de_int (da_cons (de_gv T.g_MOST_POWER) da_nil)))) (by rw [decide_eq_true (by omega), decide_eq_true (by omega)]; rfl)))) ?_
  -- return Action({kind: repeated(self.moves[kind], power) for kind in KINDS}, self.gaps)
  refine dss_ret (de_make (ini_Action T) hr (de_gc T.v_Action) (da_cons (de_dc (hf := A.hs) (hs_x T) (xs := kindL) (p := fun k => rTu K ((kdV k).map is)) (ky := kk) (r := fun k => rTu K ((rep (mf k) p).map rI)) (own := [("kind", 2)]) (js := [2]) (up := fun k G => G.set 2 (some (rTu K ((kdV k).map is)))) hr sc_times.nd (di_tup (de_kinds T.g_KINDS T.krl T.krk)) ⟨blk_of (by kernel_rfl), by simp, by decide +kernel, ?_, fun s H C cl fp x hx => dg_name 2 sc_times.nd, fun s H C cl fp x hx => de_eq (de_var 2) (ky_kd x), fun s H C cl fp x hx => ?_⟩) (da_cons (de_fld 1 T.c_Action T.na_Action_gaps (de_var 0)) da_nil))) (rt_same)
  · exact List.pairwise_map.mpr (kindL_nd.imp fun n e => n (kk_inj e))
  · exact de_call (fn_repeated T (hm x hx).1 (hm x hx).2) hr (da_cons (de_dgetK (hs_x T) (ky := kk x) hr (de_fld 0 T.c_Action T.na_Action_moves (de_var 0)) (de_eq (de_var 2) (ky_kd x)) (lk_kinds _ hx)) (da_cons (de_un (de_var 1)) da_nil))
end
end
end SQ
end
section
set_option maxHeartbeats 4000000
namespace SQ
open PySem PySem.Spec PyProof.Rows L2 StX ClX
noncomputable section
/-! one of some: what is known of a value only up to a choice -/
def rE {ι : Type} (P : ι → VP) : VP := fun v H => ∃ x, Bx (P x) v H
theorem bx_e {ι : Type} {P : ι → VP} {v : V} {H : Hp} (h : Bx (rE P) v H) : ∃ x, Bx (P x) v H := h.here
theorem bx_eI {ι : Type} {P : ι → VP} {v : V} {H : Hp} (x : ι) (h : Bx (P x) v H) : Bx (rE P) v H := fun H2 e2 => ⟨x, h.mono e2⟩
/-- an int with p -/
def rZ (p : Int → Prop) : VP := rE (ι := {i : Int // p i}) fun i => is (.int i.1)
theorem bx_z {p : Int → Prop} {v : V} {H : Hp} (h : Bx (rZ p) v H) : ∃ i, p i ∧ v = .int i := let ⟨i, q⟩ := bx_e h; ⟨i.1, i.2, q.eq⟩
theorem bx_zI {p : Int → Prop} {H : Hp} {i : Int} (h : p i) : Bx (rZ p) (.int i) H := bx_eI ⟨i, h⟩ bx_is
section
variable {X : Cx} {G : Gm} {W W' : Ow} {a b e : Expr} {es : List Expr} {P P1 P2 : VP} {D : DEn} {rest : List Stmt} {pos : Pos}
/-- the choice in slot i is made -/
theorem dss_exC {ι : Type} {R : ι → VP} (i : Nat) (conv : ∀ v H, Bx P v H → ∃ x, Bx (R x) v H) (h : ∀ x, DSs X (G.set i (some (R x))) W rest D) (hG : G[i]? = some (some P) := by rfl) : DSs X G W rest D := ⟨fun pins s σ H E I ⟨c, S, eo⟩ => by
  obtain ⟨v, e, z⟩ := S.env.2 i _ hG
  obtain ⟨x, hx⟩ := conv v _ z
  have hs2 : σ.set i (some v) = σ := by
    apply List.ext_getElem?
    intro j
    by_cases ij : i = j
    · subst ij
      rw [List.getElem?_set_self (List.getElem?_eq_some_iff.mp e).1, e]
    · rw [List.getElem?_set_ne ij]
  have S2 := S.setE (P := R x) i hx
  rw [hs2] at S2
  exact (h x).run pins s σ H E I ⟨c, S2, eo⟩⟩
theorem dss_exE {ι : Type} {R : ι → VP} (i : Nat) (h : ∀ x, DSs X (G.set i (some (R x))) W rest D) (hG : G[i]? = some (some (rE R)) := by rfl) : DSs X G W rest D := dss_exC i (fun v H z => bx_e z) h hG
theorem dss_exZ {p : Int → Prop} (i : Nat) (h : ∀ z, p z → DSs X (G.set i (some (is (.int z)))) W rest D) (hG : G[i]? = some (some (rZ p)) := by rfl) : DSs X G W rest D :=
  dss_exC (R := fun z : {i : Int // p i} => is (.int z.1)) i (fun v H z => bx_e z) (fun z => h z.1 z.2) hG
/-- two values -/
theorem od_exL {ι : Type} {f : Value → Value → Sem Value} {Q1 : ι → VP} {R : ι → VP} (o : ∀ x, OpD X W f (Q1 x) P2 (R x)) : OpD X W f (rE Q1) P2 (rE R) := by
  refine ⟨fun v1 v2 H Q => ∃ x, (o x).ex.choose v1 v2 H Q, fun pins s σ H x y v u Q I rx ry ⟨z, h⟩ => (o z).ex.choose_spec.1 pins s σ H x y v u Q I rx ry h, fun c G s H v1 v2 Q S b1 b2 k => ?_⟩
  obtain ⟨x, hx⟩ := bx_e b1
  exact ⟨x, (o x).ex.choose_spec.2 c G s H v1 v2 Q S hx b2 fun v H' e' b' => k v H' e' (bx_eI x b')⟩
theorem od_exR {ι : Type} {f : Value → Value → Sem Value} {Q2 : ι → VP} {R : ι → VP} (o : ∀ x, OpD X W f P1 (Q2 x) (R x)) : OpD X W f P1 (rE Q2) (rE R) := by
  refine ⟨fun v1 v2 H Q => ∃ x, (o x).ex.choose v1 v2 H Q, fun pins s σ H x y v u Q I rx ry ⟨z, h⟩ => (o z).ex.choose_spec.1 pins s σ H x y v u Q I rx ry h, fun c G s H v1 v2 Q S b1 b2 k => ?_⟩
  obtain ⟨x, hx⟩ := bx_e b2
  exact ⟨x, (o x).ex.choose_spec.2 c G s H v1 v2 Q S b1 hx fun v H' e' b' => k v H' e' (bx_eI x b')⟩
/-- whole numbers -/
theorem od_Z1 {f : Value → Value → Sem Value} {p r : Int → Prop} {g : Int → Int} (o : ∀ x, p x → OpD X W f (is (.int x)) P2 (is (.int (g x)))) (h : ∀ x, p x → r (g x)) : OpD X W f (rZ p) P2 (rZ r) := by
  have q := od_exL (X := X) (W := W) (f := f) (P2 := P2) (Q1 := fun x : {i : Int // p i} => is (.int x.1)) (R := fun x => rZ r) fun x => od_to (o x.1 x.2) fun v H b => by rw [b.eq]; exact bx_zI (h x.1 x.2)
  exact od_to q fun v H b => let ⟨_, z⟩ := bx_e b; z
where
  od_to {f : Value → Value → Sem Value} {P1 P2 P P' : VP} (o : OpD X W f P1 P2 P) (k : ∀ v H, Bx P v H → Bx P' v H) : OpD X W f P1 P2 P' :=
    let ⟨r, h1, h2⟩ := o.ex
    ⟨r, h1, fun c G s H v1 v2 Q S b1 b2 kq => h2 c G s H v1 v2 Q S b1 b2 fun v H' e' b' => kq v H' e' (k v _ b')⟩
theorem od_Z2 {f : Value → Value → Sem Value} {p r : Int → Prop} {g : Int → Int} (o : ∀ x, p x → OpD X W f P1 (is (.int x)) (is (.int (g x)))) (h : ∀ x, p x → r (g x)) : OpD X W f P1 (rZ p) (rZ r) := by
  have q := od_exR (X := X) (W := W) (f := f) (P1 := P1) (Q2 := fun x : {i : Int // p i} => is (.int x.1)) (R := fun x => rZ r) fun x => od_Z1.od_to (o x.1 x.2) fun v H b => by rw [b.eq]; exact bx_zI (h x.1 x.2)
  exact od_Z1.od_to q fun v H b => let ⟨_, z⟩ := bx_e b; z
theorem od_ZZ {f : Value → Value → Sem Value} {p q r : Int → Prop} {g : Int → Int → Int} (o : ∀ x y, p x → q y → OpD X W f (is (.int x)) (is (.int y)) (is (.int (g x y)))) (h : ∀ x y, p x → q y → r (g x y)) : OpD X W f (rZ p) (rZ q) (rZ r) := by
  have z := od_exL (X := X) (W := W) (f := f) (P2 := rZ q) (Q1 := fun x : {i : Int // p i} => is (.int x.1)) (R := fun _ => rZ r) fun x => od_Z2 (o x.1 · x.2) fun y hy => h x.1 y x.2 hy
  exact od_Z1.od_to z fun v H b => let ⟨_, z⟩ := bx_e b; z
/-- int(z) -/
theorem ca_intZ {p : Int → Prop} : CaD X W (.type "int") [rZ p] (rZ p) := ⟨_, call_int1, fun c G s H vs Q S b k => by
  obtain ⟨v, rfl, b1⟩ := bx1 b
  obtain ⟨i, hi, rfl⟩ := bx_z b1
  exact .inl ⟨i, rfl, k _ H (Same.refl H) (bx_zI hi)⟩⟩
/-- q[z] -/
theorem de_ixE {p : Int → Prop} {Ps : List VP} {ι : Type} {R : ι → VP} (ha : DE X G W a (rLi X.K Ps)) (hb : DE X G W b (rZ p)) (h : ∀ i, p i → ∃ x, atI Ps i = some (R x)) (hs : PlainIx b := by exact fun _ _ => rfl) : DE X G W (.Subscript a b pos) (rE R) :=
  PE.to (pe_ix (ta := tD G W W (rLi X.K Ps)) (tb := tD G W W (rZ p)) ix_list ha hb hs) fun s H Q ⟨c, S, kq⟩ => ⟨c, S, fun v1 H1 S1 e1 b1 => ⟨c, S1, fun v2 H2 S2 e2 b2 => by
    obtain ⟨i, hi, rfl⟩ := bx_z b2
    obtain ⟨x, hx⟩ := h i hi
    obtain ⟨q, us, rfl, hq, r⟩ := (b1.mono e2).here
    obtain ⟨v, hv, bv⟩ := paired_atI r hx
    exact ⟨q, us, i, v, rfl, rfl, Same.lsq vis_sub hq, hv, kq v H2 S2 (e1.trans e2) (bx_eI x bv)⟩⟩⟩
/-- if: either way -/
def tTE (G : Gm) (W : Ow) : TT := fun s H Q => ∃ c, StOk c G W s H ∧ ∀ k H', StOk c G W s H' → Same (vis c W H) (vis c W H') → Q k H'
theorem dt_cmpE {ι : Type} {kf : ι → Bool} {op : CmpOp} (o : OpD X W (compareOp op) P1 P2 (rE fun x => is (.bl (kf x)))) (ha : DE X G W a P1) (hb : DE X G W b P2) (hm : behindInMarks op b = false := by first | exact nomark _ | rfl) : PT X (.Compare a [op] [b] pos) (tTE G W) :=
  let ⟨r, h1, h2⟩ := o.ex
  PT.to (pt_cmpR h1 ha hb hm) fun s H Q ⟨c, S, k⟩ => ⟨c, S, fun v1 H1 S1 e1 b1 => ⟨c, S1, fun v2 H2 S2 e2 b2 => h2 c G s H2 v1 v2 _ S2 (b1.mono e2) b2 fun v H3 e3 b3 =>
    let ⟨x, hx⟩ := bx_e b3
    ⟨_, hx.eq, k _ H3 (S2.same e3) ((e1.trans e2).trans (vis_same e3))⟩⟩⟩
theorem od_eqZ {p : Int → Prop} {j : Int} : OpD X W (compareOp .Eq) (rZ p) (is (.int j)) (rE fun x : {i : Int // p i} => is (.bl (decide (x.1 = j)))) := od_exL fun x => od_eqI
theorem dss_ifE {cond : Expr} {ta tb : List Stmt} (hc : PT X cond (tTE G W)) (h1 : DSs X G W ta { D with nx := fun G' W' => DSs X G' W' rest D }) (h2 : DSs X G W tb { D with nx := fun G' W' => DSs X G' W' rest D }) : DSs X G W (.If cond ta tb pos :: rest) D :=
  dss_cons (PS.to (ps_if hc h1 h2) fun E s H ⟨c, S, eo⟩ => ⟨c, S, fun k H' S' e' => by
    cases k with
    | true => exact iteT ⟨c, S', eo⟩
    | false => exact iteF ⟨c, S', eo⟩⟩)
/-! walked, one of some -/
def tIE {ι : Type} (G : Gm) (W : Ow) (fam : ι → List VP) : TI := fun s H R => ∃ c, StOk c G W s H ∧ ∀ x J H1, StOk c G W s H1 → Same (vis c W H) (vis c W H1) → IterOk (vis c W H1) J (fam x) → R J H1
theorem lc_body {α : Type} {xs : List α} {p : α → VP} {f : α → Bool} {r : α → VP} {js vs : List Nat} {up : α → Gm → Gm} (hjs : ∀ j ∈ js, j ∈ vs) (hz : xs.length ≤ 100000) {s : St} {H1 : Hp} {Q : VK} {K : PySem.W.Frag} {c : Ct} {J : It}
    (S1 : StOk c G W s H1) (it : IterOk (vis c W H1) J (xs.map p)) (k : ∀ v H', StOk c G W s H' → Same (vis c W H1) (vis c W H') → Bx (rLi K ((xs.filter f).map r)) v (vis c W H') → Q v H') :
    tLc (fun _ H R => R J H1) (fun v s H Q => ∃ x ∈ xs, tG (p x) js (up x) v s H Q)
      (fun s H Q => ∃ x ∈ xs, tT (up x (wipeG G vs)) W (f x) s H Q) (fun s H Q => ∃ x ∈ xs, f x = true ∧ tD (up x (wipeG G vs)) W W (r x) s H Q) vs s H1 Q := by
  intro Dl hD
  have fr := S1.fresh hD
  refine ⟨fun i m H' => m = xs.length - i ∧ i ≤ xs.length ∧ StOk ⟨H1, inO W, c.hd⟩ G ((Dl, oLi (((xs.take i).filter f).map r)) :: W) s H', ⟨xs.length, by simp, Nat.zero_le _, ?_⟩, ?_⟩
  · exact (S1.loop).newO hD fun H' _ => ⟨[], rfl, by simp; exact .nil⟩
  rintro i m H2 ⟨rfl, hi, S2⟩
  have sm : Same (vis c W H1) H2 := (S1.unloop S2).2.trans vis_sub
  by_cases hlt : i < xs.length
  · have hx : xs[i]? = some xs[i] := by simp [hlt]
    obtain ⟨hgo, hy⟩ := it.go i (p xs[i]) H2 (by simp [hlt]) sm
    refine .inr ⟨hgo, fun H' => StOk ⟨H1, inO W, c.hd⟩ G ((Dl, oLi (((xs.take (i + 1)).filter f).map r)) :: W) s H', fun H' S' => ⟨xs.length - (i + 1), by omega, rfl, hlt, S'⟩, fun x H3 y => ?_⟩
    obtain ⟨e3, k3⟩ := hy x H3 y
    have S3 := S2.same e3
    have bx3 : Bx (p xs[i]) x (vis c ((Dl, oLi (((xs.take i).filter f).map r)) :: W) H3) := iter_bx S1 S2 e3 k3
    have hs : ∀ q ∈ W, q ∈ (Dl, oLi (((xs.take i).filter f).map r)) :: W := fun q h => List.mem_cons_of_mem _ h
    have ndW : (W.map (·.1)).Nodup := (List.nodup_cons.mp S3.nd).2
    have nDW : ¬ inO W Dl := (List.nodup_cons.mp S3.nd).1
    have Sb := S3.sub (W' := W) hs ndW (wipe_env S3.env vs)
    have ev := vis_subc (c := ⟨H1, inO W, c.hd⟩) (W := (Dl, oLi (((xs.take i).filter f).map r)) :: W) (W' := W) (H := H3) (H' := H3) (fun b q => List.mem_cons_of_mem _ q)
    refine ⟨xs[i], List.getElem_mem hlt, _, _, W, Sb, (by rw [ev]; exact bx3), fun s4 H4 S4 e4 f4 l4 => ?_⟩
    refine ⟨(wipe_eqE l4 fun j hj => f4 j fun z => hj (hjs j z)).trans wipe_twice, xs[i], List.getElem_mem hlt, _, S4, fun H5 S5 e5 => ?_⟩
    -- the new list stays
    have stays : ∀ {G6 : Gm} {s6 : St} {H6 : Hp}, StOk (Ct.sub ⟨H1, inO W, c.hd⟩ ((Dl, oLi (((xs.take i).filter f).map r)) :: W) W H3) G6 W s6 H6 →
        StOk ⟨H1, inO W, c.hd⟩ G ((Dl, oLi (((xs.take i).filter f).map r)) :: W) s H6 ∧ vis (Ct.sub ⟨H1, inO W, c.hd⟩ ((Dl, oLi (((xs.take i).filter f).map r)) :: W) W H3) W H6 = vis ⟨H1, inO W, c.hd⟩ ((Dl, oLi (((xs.take i).filter f).map r)) :: W) H6 := fun S6 => by
      obtain ⟨a1, _, a3⟩ := S3.back (W1 := (Dl, oLi (((xs.take i).filter f).map r)) :: W) hs S6 rfl rfl fun a C h => by
        rcases List.mem_cons.mp h with q | q
        · cases q
          exact .inr ⟨List.mem_cons_self, nDW⟩
        · exact .inl q
      exact ⟨a1, a3⟩
    by_cases hf : f xs[i] = true
    · dsimp only
      rw [if_pos hf]
      refine ⟨xs[i], List.getElem_mem hlt, hf, _, S5, fun y H6 S6 e6 b6 => ?_⟩
      obtain ⟨a1, a3⟩ := stays S6
      rw [a3] at b6
      obtain ⟨u, hu, hc⟩ := a1.owned List.mem_cons_self
      obtain ⟨acc, eu, ra⟩ := hc _ (Same.refl _)
      subst eu
      refine ⟨acc, hu, ?_, ?_⟩
      · have l1 := Paired.length ra
        rw [List.length_map] at l1
        have l2 := List.length_filter_le f (xs.take i)
        rw [List.length_take] at l2
        have l3 : sizeLine = 16777216 := sizeLine_eq
        omega
      · refine a1.change (W' := (Dl, oLi (((xs.take (i + 1)).filter f).map r)) :: W) rfl List.mem_cons_self fun b C hb => ?_
        rcases List.mem_cons.mp hb with q | q
        · cases q
          refine .inr ⟨rfl, fun H' e' => ⟨_, rfl, ?_⟩⟩
          rw [lc_turns hx, if_pos hf]
          exact paired_app (bxs_mono e' ra) (.cons (b6.mono e') .nil)
        · refine .inl ⟨?_, List.mem_cons_of_mem _ q⟩
          rintro rfl
          exact nDW (inO.mem q)
    · dsimp only
      rw [if_neg hf]
      obtain ⟨a1, _⟩ := stays S5
      have et : ((xs.take (i + 1)).filter f).map r = ((xs.take i).filter f).map r := by rw [lc_turns hx, if_neg hf, List.append_nil]
      rw [et]
      exact a1
  · have ei : i = xs.length := by omega
    subst ei
    refine .inl ⟨?_, ?_⟩
    · have z := it.stop H2 sm
      rw [List.length_map] at z
      exact z
    · obtain ⟨U, sm2⟩ := S1.unloop S2
      obtain ⟨u, hu, hc⟩ := U.owned List.mem_cons_self
      obtain ⟨acc, eu, ra⟩ := hc _ (Same.refl _)
      subst eu
      rw [List.take_length] at ra
      have Sd := U.drop (W' := W) (fun q h => List.mem_cons_of_mem _ h) (List.nodup_cons.mp U.nd).2
      have sv : Same (vis c ((Dl, oLi (((xs.take xs.length).filter f).map r)) :: W) H2) (vis c W H2) := vis_drop fun b q => List.mem_cons_of_mem _ q
      refine k (.ref Dl) H2 Sd (sm2.trans sv) (bx_li (hid_some.mpr ⟨fun z => ?_, hu⟩) (bxs_mono sv ra))
      rcases z with z | z
      · exact fr.1 z
      · exact (List.nodup_cons.mp U.nd).1 z

/-- range(z) -/
theorem pi_rangeZ {p : Int → Prop} {tg : Expr} {p0 pos : Pos} (hm : X.mg "range" = none) (ha : DA X G W [a] [rZ p]) (hn : ∀ n, p n → -1000000 ≤ n ∧ n < 1000000) (hg : Gl X "range" := by rfl) (hs : starEach [a] X.env = [(false, eval a X.env)] := by rfl) : PI X tg (.Call (.Name "range" p0) [a] [] pos) (tIE G W fun n : {i : Int // p i} => rgV 0 n.1.toNat) :=
  PI.to (pi_range1 hg hm ha hs) fun s H R ⟨c, S, k⟩ => ⟨c, S, fun vs H' S' e' b => by
    cases b with
    | cons b1 r =>
      cases r
      obtain ⟨n, hp, rfl⟩ := bx_z b1
      have := hn n hp
      exact ⟨n, rfl, by omega, by omega, k ⟨n, hp⟩ _ H' S' e' iter_rng⟩⟩
/-- a comprehension over one of some -/
theorem de_lcE {ι : Type} {elt tg iter : Expr} {scope : Scope} {own : List (Str × Nat)} {js : List Nat} {α : Type} {xs : ι → List α} {p : α → VP} {r : α → VP} {up : α → Gm → Gm} (hN : X.N.Nodup) (hi : PI X tg iter (tIE G W fun i => (xs i).map p)) (ok : BlkOk X.N X.env.scope scope own) (jsOk : ∀ j ∈ js, j ∈ own.map (·.2)) (sz : ∀ i, (xs i).length ≤ 100000)
    (htg : ∀ (s : Shared) (H : Hp) (C : Addr) (cl : List (Str × Addr)) (fp : List Addr), ∀ i, ∀ x ∈ xs i, DG (X.blk s H scope (compEnvC scope cl C X.env) fp) tg (p x) js (up x))
    (he : ∀ (s : Shared) (H : Hp) (C : Addr) (cl : List (Str × Addr)) (fp : List Addr), ∀ i, ∀ x ∈ xs i, DE (X.blk s H scope (compEnvC scope cl C X.env) fp) (up x (wipeG G (own.map (·.2)))) W elt (r x)) (hc : X.calm = true := by rfl) (hs : ∀ x, foldedSetIterable iter X.env x = pure x := by intro _; rfl) :
    DE X G W (.ListComp elt [⟨tg, iter, [], 0⟩] scope pos) (rE fun i => rLi X.K ((xs i).map r)) :=
  PE.to (pe_lc hc hN hi ok (g := fun v s H Q => ∃ i, ∃ x ∈ xs i, tG (p x) js (up x) v s H Q) (tt := fun s H Q => ∃ i, ∃ x ∈ xs i, tT (up x (wipeG G (own.map (·.2)))) W true s H Q) (te := fun s H Q => ∃ i, ∃ x ∈ xs i, tD (up x (wipeG G (own.map (·.2)))) W W (r x) s H Q)
    (fun s H C cl fp => ⟨fun pins s σ H v u Q I rr ⟨i, x, hx, q⟩ => (htg _ _ C cl fp i x hx).run pins s σ H v u Q I rr q⟩)
    (fun s H C cl fp => ⟨fun pins s σ H Q I ⟨i, x, hx, q⟩ => (dts_nil (G := up x (wipeG G (own.map (·.2)))) (W := W)).run pins s σ H Q I q⟩)
    (fun s H C cl fp => ⟨fun pins s σ H Q I ⟨i, x, hx, q⟩ => (he _ _ C cl fp i x hx).run pins s σ H Q I q⟩) hs) fun s H Q ⟨c, S, k⟩ => ⟨c, S, fun i J H1 S1 e1 it => by
      have z := lc_body (G := G) (W := W) (xs := xs i) (p := p) (f := fun _ => true) (r := r) (js := js) (vs := own.map (·.2)) (up := up) (K := X.K) (Q := Q) jsOk (sz i) S1 it fun v H' S' e' b => k v H' S' (e1.trans e') (bx_eI i (by rw [filt_true] at b; exact b))
      intro D hD
      obtain ⟨Wf, w0, turn⟩ := z D hD
      refine ⟨Wf, w0, fun j m H2 w => ?_⟩
      rcases turn j m H2 w with h | ⟨go, Nx, h1, h2⟩
      · exact .inl h
      · refine .inr ⟨go, Nx, h1, fun x H' y => ?_⟩
        obtain ⟨x0, hx0, q⟩ := h2 x H' y
        refine ⟨i, x0, hx0, ?_⟩
        obtain ⟨c1, G1, W1, q1, q2, q3⟩ := q
        refine ⟨c1, G1, W1, q1, q2, fun s4 H4 S4 e4 f4 l4 => ?_⟩
        obtain ⟨q5, x1, hx1, c2, q6, q7⟩ := q3 s4 H4 S4 e4 f4 l4
        refine ⟨q5, i, x1, hx1, c2, q6, fun H5 S5 e5 => ?_⟩
        have q8 := q7 H5 S5 e5
        dsimp only at q8 ⊢
        rw [if_pos rfl] at q8 ⊢
        obtain ⟨x2, hx2, _, q9⟩ := q8
        exact ⟨i, x2, hx2, q9⟩⟩
/-- a list of choices is a choice of lists -/
theorem li_e {ι : Type} {K : PySem.W.Frag} {P : ι → VP} : ∀ {n : Nat} {v : V} {H : Hp}, Bx (rLi K (List.replicate n (rE P))) v H → ∃ ys : List ι, ys.length = n ∧ Bx (rLi K (ys.map P)) v H := by
  intro h
  obtain ⟨a, us, rfl, hq, r⟩ := h.here
  obtain ⟨ys, hl, pr⟩ := pick r
  exact ⟨ys, hl, bx_li hq pr⟩
where
  pick {H : Hp} {P : ι → VP} : ∀ {n : Nat} {us : List V}, Paired (fun P u => Bx P u H) (List.replicate n (rE P)) us → ∃ ys : List ι, ys.length = n ∧ Paired (fun P u => Bx P u H) (ys.map P) us
    | 0, _, .nil => ⟨[], rfl, .nil⟩
    | n + 1, _, .cons a r => by
      obtain ⟨y, hy⟩ := bx_e a
      obtain ⟨ys, hl, pr⟩ := pick r
      exact ⟨y :: ys, by simp [hl], .cons hy pr⟩
end
end
end SQ
end
section
set_option maxHeartbeats 400000
namespace SQ
open PySem PySem.Spec PyProof.Rows L2 StX ClX
noncomputable section
section
variable {X : Cx} {G : Gm} {W W' : Ow} {a b e : Expr} {es : List Expr} {P P1 P2 : VP} {D : DEn} {rest : List Stmt} {pos : Pos}
/-- what is owned may be told in another way -/
theorem dss_own {q : Addr} {C C' : OC} (h : ∀ u H, (∀ H', Same H H' → C u H') → ∀ H', Same H H' → C' u H') (k : DSs X G ((q, C') :: W) rest D) : DSs X G ((q, C) :: W) rest D := ⟨fun pins s σ H E I ⟨c, S, eo⟩ => by
  refine k.run pins s σ H E I ⟨c, ⟨S.env, fun b B hb => ?_, S.nd, S.fr, S.hdA, S.dj⟩, eo⟩
  rcases List.mem_cons.mp hb with z | z
  · cases z
    obtain ⟨m, u, y, z⟩ := S.own _ _ (List.mem_cons_self (a := (q, C)) (l := W))
    exact ⟨m, u, y, h u _ z⟩
  · exact S.own b B (List.mem_cons_of_mem _ z)⟩
theorem dss_ownE {q : Addr} {C : OC} {ι : Type} {C' : ι → OC} (h : ∀ u H, C u H → ∃ x, ∀ H', Same H H' → C' x u H') (k : ∀ x, DSs X G ((q, C' x) :: W) rest D) : DSs X G ((q, C) :: W) rest D := ⟨fun pins s σ H E I ⟨c, S, eo⟩ => by
  obtain ⟨m, u, y, z⟩ := S.own _ _ (List.mem_cons_self (a := (q, C)) (l := W))
  obtain ⟨x, hx⟩ := h u _ (z _ (Same.refl _))
  refine (k x).run pins s σ H E I ⟨c, ⟨S.env, fun b B hb => ?_, S.nd, S.fr, S.hdA, S.dj⟩, eo⟩
  rcases List.mem_cons.mp hb with z2 | z2
  · cases z2
    exact ⟨m, u, y, hx⟩
  · exact S.own b B (List.mem_cons_of_mem _ z2)⟩
/-- the purl: two ints -/
def oPu : OC := fun u _ => ∃ m o : Int, u = .lst [.int m, .int o] ∧ 0 ≤ m ∧ m < 2147483629 ∧ 0 ≤ o
theorem pu_li {m o : Int} {H : Hp} : oLi [is (.int m), is (.int o)] (.lst [.int m, .int o]) H := ⟨_, rfl, .cons bx_is (.cons bx_is .nil)⟩
theorem li_pu {m o : Int} {u : HO} {H : Hp} (h : oLi [is (.int m), is (.int o)] u H) : u = .lst [.int m, .int o] := by
  obtain ⟨vs, rfl, r⟩ := h
  rw [bxs_is (xs := [.int m, .int o]) r]
theorem dss_puOpen {q : Addr} (k : ∀ m o : Int, 0 ≤ m → m < 2147483629 → 0 ≤ o → DSs X G ((q, oLi [is (.int m), is (.int o)]) :: W) rest D) : DSs X G ((q, oPu) :: W) rest D :=
  dss_ownE (C' := fun x : {x : Int × Int // 0 ≤ x.1 ∧ x.1 < 2147483629 ∧ 0 ≤ x.2} => oLi [is (.int x.1.1), is (.int x.1.2)]) (fun u H ⟨m, o, e, h1, h2, h3⟩ => ⟨⟨(m, o), h1, h2, h3⟩, fun H' _ => by rw [e]; exact pu_li⟩) fun x => k x.1.1 x.1.2 x.2.1 x.2.2.1 x.2.2.2
theorem dss_puClose {q : Addr} {m o : Int} (h1 : 0 ≤ m) (h2 : m < 2147483629) (h3 : 0 ≤ o) (k : DSs X G ((q, oPu) :: W) rest D) : DSs X G ((q, oLi [is (.int m), is (.int o)]) :: W) rest D :=
  dss_own (fun u H h H' e' => ⟨m, o, li_pu (h H' e'), h1, h2, h3⟩) k
/-- q[0] of a purl -/
theorem de_pu0 {q : Addr} (hq : (q, oPu) ∈ W) (ha : DE X G W a (is (.ref q))) {kk : Nat} {p2 : Pos} : DE X G W (.Subscript a (.Constant (.int 0) kk p2) pos) (rZ fun m => 0 ≤ m ∧ m < 2147483629) :=
  PE.to (pe_ix (ta := tD G W W (is (.ref q))) (tb := tD G W W (is (.int 0))) ix_list ha de_int fun _ _ => rfl) fun s H Q ⟨c, S, kq⟩ => ⟨c, S, fun v1 H1 S1 e1 b1 => ⟨c, S1, fun v2 H2 S2 e2 b2 => by
    cases b1.eq
    cases b2.eq
    obtain ⟨u, hu, hc⟩ := S2.owned hq
    obtain ⟨m, o, rfl, h1, h2, h3⟩ := hc _ (Same.refl _)
    exact ⟨q, _, 0, .int m, rfl, rfl, SqL.of hu, rfl, kq _ H2 S2 (e1.trans e2) (bx_zI ⟨h1, h2⟩)⟩⟩⟩
/-- q[b], x = e, e a pair -/
theorem dss_putPair {q : Addr} {Ps : List VP} {x y : V} {i : Int} {n : Str} {kk : Nat} {p1 p2 pt : Pos} (j : Nat) (iN : Nat) (ho : DE X G ((q, oLi Ps) :: W) a (is (.ref q))) (hi : DE X G ((q, oLi Ps) :: W) b (is (.int i))) (he : DE X G ((q, oLi Ps) :: W) e (rTr [x, y])) (hj : ixN Ps.length i = some j)
    (h : DSs X (G.set iN (some (is y))) ((q, oLi (Ps.set j (is x))) :: W) rest D) (hN : X.N.Nodup) (hn : X.N[iN]? = some n := by rfl) (hx : Loc X.env.scope n := by first | exact .inl rfl | exact .inr rfl) (hf : X.fn n = true ∨ X.env.scope.names.lookup n = some .local := by first | exact .inl rfl | exact .inr rfl)
    (hs : swapsWithSole [.Tuple [.Subscript a b p1, .Name n p2] kk pt] e pos.line X.env = pure false := by rfl) (hw : swappedStores [.Tuple [.Subscript a b p1, .Name n p2] kk pt] e X.env = pure none := by rfl)
    (h1 : (assignEach [.Tuple [.Subscript a b p1, .Name n p2] kk pt] X.env).map (·.2) = [assign (.Tuple [.Subscript a b p1, .Name n p2] kk pt) X.env] := by rfl)
    (ha : ∀ v, assign (.Subscript a b p1) X.env v = (do
      let ov ← holding [v] (eval a X.env)
      let iv ← holding [v, ov] (eval b X.env)
      standAt p1
      holding [v, ov, iv] (setItem ov iv v)
      release [v, ov, iv] []) := by intro _; rfl) (hc : X.calm = true := by rfl)
    (hl : (assignEach [.Subscript a b p1, .Name n p2] X.env).length = 2 := by rfl) (hst : (assignEach [.Subscript a b p1, .Name n p2] X.env).findIdx? (·.1) = none := by rfl)
    (hs1 : (assignEach (.Subscript a b p1 :: [.Name n p2]) X.env).map (·.2) = assign (.Subscript a b p1) X.env :: (assignEach [.Name n p2] X.env).map (·.2) := by rfl)
    (hs2 : (assignEach (.Name n p2 :: []) X.env).map (·.2) = assign (.Name n p2) X.env :: (assignEach [] X.env).map (·.2) := by rfl) : DSs X G ((q, oLi Ps) :: W) (.Assign [.Tuple [.Subscript a b p1, .Name n p2] kk pt] e pos :: rest) D :=
  dss_cons (PS.to (ps_asg he (pg_tup hc (pgs_cons (pg_sub (pos := p1) ho hi set_list ha) (pgs_cons (pg_name hN hn hx hf) pgs_nil hs2) hs1) hl hst) hs hw h1) fun E s H ⟨c, S, eo⟩ => ⟨c, S, fun v H1 S1 e1 b1 => by
    obtain ⟨t, rfl, ht⟩ := b1.here
    refine ⟨t, [x, y], rfl, SqT.of (vis_sub _ _ ht), rfl, x, [y], rfl, c, S1, fun o H2 S2 e2 b2 => ⟨c, S2, fun iv H3 S3 e3 b3 => ?_⟩⟩
    cases b2.eq
    cases b3.eq
    obtain ⟨vs, hu, r⟩ := mem_of_owned S3 List.mem_cons_self
    refine ⟨q, vs, i, j, rfl, rfl, hu, by rw [← Paired.length r]; exact hj, y, [], rfl, rfl, ?_⟩
    have hset : Paired (fun P v => Bx P v (vis c ((q, oLi Ps) :: W) H3)) (Ps.set j (is x)) (vs.set j x) := dss_lput.paired_set r bx_is
    obtain ⟨a1, a2⟩ := S3.put (q := q) (C := oLi (Ps.set j (is x))) (o := .lst (vs.set j x)) (inO.mem List.mem_cons_self) fun H' e' => ⟨_, rfl, bxs_mono e' hset⟩
    rw [putO_hd] at a1
    exact eo.nx _ _ _ _ h (a1.setE (P := is y) iN bx_is)⟩)
/-! ### the script: a list of ints, kept or tracked -/
def rSc (K : PySem.W.Frag) (xs : List Int) : VP := fun v H => ∃ a, v = .ref a ∧ SqL K H a (xs.map V.int)
theorem sql_mono {K : PySem.W.Frag} {H H' : Hp} {a : Addr} {xs : List V} (e : Same H H') (h : SqL K H a xs) : SqL K H' a xs := h.imp (fun z => z.imp (e _ _) fun ⟨o, h⟩ => ⟨o, e _ _ h⟩) id
theorem bx_sc {K : PySem.W.Frag} {H : Hp} {xs : List Int} {v : V} (h : Bx (rSc K xs) v H) : ∃ a, v = .ref a ∧ SqL K H a (xs.map V.int) := h.here
theorem de_scIx {xs : List Int} {i : Int} {z : Int} (ha : DE X G W a (rSc X.K xs)) (hb : DE X G W b (is (.int i))) (h : atI (xs.map V.int) i = some (.int z)) (hs : PlainIx b := by exact fun _ _ => rfl) : DE X G W (.Subscript a b pos) (is (.int z)) :=
  PE.to (pe_ix (ta := tD G W W (rSc X.K xs)) (tb := tD G W W (is (.int i))) ix_list ha hb hs) fun s H Q ⟨c, S, kq⟩ => ⟨c, S, fun v1 H1 S1 e1 b1 => ⟨c, S1, fun v2 H2 S2 e2 b2 => by
    cases b2.eq
    obtain ⟨q, rfl, hq⟩ := bx_sc (b1.mono e2)
    exact ⟨q, _, i, .int z, rfl, rfl, sql_mono vis_sub hq, h, kq _ H2 S2 (e1.trans e2) bx_is⟩⟩⟩
theorem ca_lenSc {xs : List Int} : CaD X W (.builtin "len") [rSc X.K xs] (is (.int xs.length)) := ⟨_, call_len, fun c G s H vs Q S b k => by
  obtain ⟨v, rfl, b1⟩ := bx1 b
  obtain ⟨q, rfl, hq⟩ := bx_sc b1
  exact ⟨.ref q, (xs.map V.int).length, rfl, .inl ⟨_, sql_mono vis_sub hq, rfl⟩, k _ H (Same.refl H) (by rw [List.length_map]; exact bx_is)⟩⟩
theorem de_slSc {lo hi : Option Expr} {i j : Option Int} {p2 : Pos} {xs : List Int} (he : DE X G W e (rSc X.K xs)) (hl : DO X G W lo i) (hu : DO X G W hi j) : DE X G W (.Subscript e (.Slice lo hi none p2) pos) (rLi X.K ((cutV (xs.map V.int) i j).map is)) :=
  PE.to (pe_slice sl_list he hl hu) fun s H Q ⟨c, S, k⟩ => ⟨c, S, fun v H1 S1 e1 b1 => ⟨c, S1, fun H2 S2 e2 => ⟨c, S2, fun H3 S3 e3 => by
    obtain ⟨q, rfl, hq⟩ := bx_sc (b1.mono (e2.trans e3))
    exact ⟨q, _, rfl, sql_mono vis_sub hq, fun p hp => k _ _ (S3.same (Same.new hp)) (((e1.trans e2).trans e3).trans (vis_same (Same.new hp))) (bx_li (S3.newV hp) (is_bxs _))⟩⟩⟩⟩
end
end
end SQ
end
section
set_option maxHeartbeats 400000
namespace SQ
open PySem PySem.Spec PyProof.Rows L2 StX ClX
noncomputable section
section
variable {P : Program} {w : World} {K : PySem.W.Frag} {mg : Str → Option Value} {base : Heap} {A : Ad}
def dgP (k : Int) : Int → Prop := fun d => 0 ≤ d ∧ d < k
theorem dl_log {k : Int} (h : 0 < k ∧ k ≤ 10 ^ 15) : k.natAbs.log2 < 9000 := by
  have h1 : k.natAbs < 2 ^ 9000 := by
    have h2 : k.natAbs ≤ 10 ^ 15 := by omega
    have h3 : 10 ^ 15 < 2 ^ 60 := by decide
    exact Nat.lt_of_le_of_lt h2 (Nat.lt_of_lt_of_le h3 (Nat.pow_le_pow_right (by decide) (by decide)))
  exact (Nat.log2_lt (by omega)).mpr h1
theorem sc_law_dig : FnScope ["_law_purl_here", "_law_many", "_law_digit"] ["_law_purl_here", "_law_many"] (defScope (top 102)) := ⟨rfl, rfl, rfl, by decide +kernel, rfl, by decide +kernel, by decide +kernel⟩
theorem fn_law_dig (T : Tx K w mg A) {q : Addr} {k : Int} (hk : 0 < k ∧ k ≤ 10 ^ 15) : FnG P w K mg base "_law_dig" 1 [is (.ref q), is (.int k)] [(q, oPu)] [(q, oPu)] (rZ (dgP k)) :=
  fng_of T.d_law_dig sc_law_dig rfl (fun _ _ _ _ _ _ us hl => match us, hl with | [_, _], _ => rfl) fun f cdv Ar outer s H E hr => by
  refine dss_puOpen fun m o hm1 hm2 ho => ?_
  -- if purl[1] > 0:
  refine dss_if (k := decide (0 < o)) (dt_cmp od_gt (de_ixO (P := is (.int o)) (Qs := [is (.int m), is (.int o)]) List.mem_cons_self (de_var 0) de_int (atI_k 1 rfl)) de_int) (fun hc => ?_) (fun hc => ?_)
  · -- purl[1], digit = divmod(purl[1], many)
    refine dss_putPair 1 2 (de_var 0) de_int (de_bi (ca_divmod (i := o) hk.1 (dl_log hk)) T.n_divmod boot_divmod (da_cons (de_ixO (P := is (.int o)) (Qs := [is (.int m), is (.int o)]) List.mem_cons_self (de_var 0) de_int (atI_k 1 rfl)) (da_cons (de_var 1) da_nil))) rfl ?_ sc_law_dig.nd
    refine dss_puClose (m := m) (o := o / k) hm1 hm2 (Int.ediv_nonneg ho (by omega)) ?_
    -- return digit
    refine dss_ret (de_var 2) (rt_to fun v H b => ?_)
    rw [b.eq]
    exact bx_zI ⟨Int.emod_nonneg _ (by omega), Int.emod_lt_of_pos _ hk.1⟩
  · refine dss_nil ?_
    -- purl[0] = int(purl[0] * 69621 + 29) % 2147483629
    refine dss_lput (P := is (.int ((m * 69621 + 29) % 2147483629))) 0 (de_var 0) de_int (de_bin (od_mod (by decide)) (de_ty ca_int T.n_int boot_int (da_cons (de_bin od_add (de_bin (od_mul (.inr (by decide))) (de_ixO (P := is (.int m)) (Qs := [is (.int m), is (.int o)]) List.mem_cons_self (de_var 0) de_int (atI_k 0 rfl)) de_int) de_int) da_nil)) de_int) rfl ?_
    refine dss_puClose (m := (m * 69621 + 29) % 2147483629) (o := o) (Int.emod_nonneg _ (by decide)) (Int.emod_lt_of_pos _ (by decide)) ho ?_
    -- return int(purl[0] // 1024) % many
    refine dss_ret (de_bin (od_Z1 (g := fun x => x % k) (p := fun x => True) (fun x _ => od_mod hk.1) (fun x _ => ⟨Int.emod_nonneg _ (by omega), Int.emod_lt_of_pos _ hk.1⟩)) (de_ty ca_intZ T.n_int boot_int (da_cons (de_bin (od_Z1 (g := fun x => x / 1024) (fun x _ => od_fdiv (by decide) (by decide)) (fun x _ => trivial)) (de_pu0 List.mem_cons_self (de_var 0)) de_int) da_nil)) (de_var 1)) rt_same
end
end
end SQ
end
section
set_option maxHeartbeats 400000
namespace SQ
open PySem PySem.Spec PyProof.Rows L2 StX ClX
noncomputable section
def baTs : List Str := ["n//2", "(n+1)//2", "n", "i", "n-i"]
def suTs : List Str := ["-1", "", "+1"]
theorem endT_cat : ∀ a, a < 18 → 3 ≤ a → endT a = baTs.getD (a / 3 - 1) "" ++ suTs.getD (a % 3) "" ∧ (baTs.getD (a / 3 - 1) "").length ≤ 20 ∧ (suTs.getD (a % 3) "").length ≤ 20 := by decide +kernel
theorem endT_low : ∀ a, a < 3 → endT a = toString ((a : Int) - 1) := by decide +kernel
/-- a loop of the plan -/
def rLp (K : PySem.W.Frag) (l : Lp) : VP := rTu K [is (.int l.a), is (.int l.b), is (.bl l.d)]
def mLp (inn : Bool) : Nat := if inn = true then 18 else 12
section
variable {P : Program} {w : World} {K : PySem.W.Frag} {mg : Str → Option Value} {base : Heap} {A : Ad}
theorem sc_law_spots : FnScope [] [] (defScope (top 103)) := ⟨rfl, rfl, rfl, by decide +kernel, rfl, by decide +kernel, by decide +kernel⟩
theorem fn_law_spots (T : Tx K w mg A) : FnG P w K mg base "_law_spots" 1 [] [] [] (rLi K (plTs.map rS)) :=
  fng_of T.d_law_spots sc_law_spots rfl (fun _ _ _ _ _ _ us hl => match us, hl with | [], _ => rfl) fun f cdv Ar outer s H E hr => by
  -- return ['i,j', 'j,i', 'i,~j', '~j,i', '~i,j', 'j,~i', '~i,~j', '~j,~i']
  exact dss_ret (de_lst (da_cons de_str (da_cons de_str (da_cons de_str (da_cons de_str (da_cons de_str (da_cons de_str (da_cons de_str (da_cons de_str da_nil))))))))) (rt_same)
theorem sc_law_cells : FnScope ["_law_size", "_law_row", "_law_column", "_law_far_here", "_law_off", "_law_found"] ["_law_size", "_law_row", "_law_column"] (defScope (top 104)) := ⟨rfl, rfl, rfl, by decide +kernel, rfl, by decide +kernel, by decide +kernel⟩
theorem fn_law_cells (T : Tx K w mg A) {n r c : Int} : FnG P w K mg base "_law_cells" 1 [is (.int n), is (.int r), is (.int c)] [] [] (rLi K ((img n r c).map rC)) :=
  fng_of T.d_law_cells sc_law_cells rfl (fun _ _ _ _ _ _ us hl => match us, hl with | [_, _, _], _ => rfl) fun f cdv Ar outer s H E hr => by
  -- _law_far_here, _law_off = (_law_size - 1 - _law_row, _law_size - 1 - _law_column)
  refine dss_par 3 4 (da_cons (de_bin od_sub (de_bin od_sub (de_var 0) de_int) (de_var 1)) (da_cons (de_bin od_sub (de_bin od_sub (de_var 0) de_int) (de_var 2)) da_nil)) ?_ sc_law_cells.nd
  -- _law_found = [(_law_row, _law_column), (_law_column, _law_row), (_law_row, _law_off), (_law_off, _law_row), (_
  refine dss_set 5 (de_lst (da_cons (de_tupV [_, _] (da_cons (de_var 1) (da_cons (de_var 2) da_nil))) (da_cons (de_tupV [_, _] (da_cons (de_var 2) (da_cons (de_var 1) da_nil))) (da_cons (de_tupV [_, _] (da_cons (de_var 1) (da_cons (de_var 4) da_nil))) (da_cons (de_tupV [_, _] (da_cons (de_var 4) (da_cons (de_var 1) da_nil))) (da_cons (de_tupV [_, _] (da_cons (de_var 3) (da_cons (de_var 2) da_nil))) (da_cons (de_tupV [_, _] (da_cons (de_var 2) (da_cons (de_var 3) da_nil))) (da_cons (de_tupV [_, _] (da_cons (de_var 3) (da_cons (de_var 4) da_nil))) da_nil)))))))) ?_ sc_law_cells.nd
  -- return _law_found + [(_law_off, _law_far_here)]
  exact dss_ret (de_bin (od_cat (Ps := [_, _, _, _, _, _, _]) (Qs := [_]) (Nat.le_of_ble_eq_true rfl)) (de_var 5) (de_lst (da_cons (de_tupV [_, _] (da_cons (de_var 4) (da_cons (de_var 3) da_nil))) da_nil))) (rt_same)
theorem sc_law_end : FnScope ["_law_at", "_law_size", "_law_i", "_law_bases"] ["_law_at", "_law_size", "_law_i"] (defScope (top 105)) := ⟨rfl, rfl, rfl, by decide +kernel, rfl, by decide +kernel, by decide +kernel⟩
theorem fn_law_end (T : Tx K w mg A) {a : Nat} {n i : Int} (ha : a < 18) : FnG P w K mg base "_law_end" 1 [is (.int a), is (.int n), is (.int i)] [] [] (is (.int (endV a n i))) :=
  fng_of T.d_law_end sc_law_end rfl (fun _ _ _ _ _ _ us hl => match us, hl with | [_, _, _], _ => rfl) fun f cdv Ar outer s H E hr => by
  have at_ : ∀ b, b < 6 → ([is (.int 0), is (.int (n / 2)), is (.int ((n + 1) / 2)), is (.int n), is (.int i), is (.int (n - i))] : List VP)[b]? = some (is (.int (bsV b n i))) := by
    intro b hb
    rcases b with _ | _ | _ | _ | _ | _ | _ <;> first | rfl | omega
  -- _law_bases = [0, _law_size // 2, (_law_size + 1) // 2, _law_size, _law_i, _law_size - _law_i]
  refine dss_set 3 (de_lst (da_cons de_int (da_cons (de_bin (od_fdiv (by decide) (by decide)) (de_var 1) de_int) (da_cons (de_bin (od_fdiv (by decide) (by decide)) (de_bin od_add (de_var 1) de_int) de_int) (da_cons (de_var 1) (da_cons (de_var 2) (da_cons (de_bin od_sub (de_var 1) (de_var 2)) da_nil))))))) ?_ sc_law_end.nd
  -- return _law_bases[_law_at // 3] + int(_law_at) % 3 - 1
  refine dss_ret (de_eq (de_bin od_sub (de_bin od_add (de_ixL (i := ((a / 3 : Nat) : Int)) (de_var 3) (de_eq (de_bin (od_fdiv (by decide) (by decide)) (de_var 0) de_int) (by rw [Int.natCast_ediv]; rfl)) (atI_k (a / 3) (at_ _ (by omega)))) (de_bin (od_mod (by decide)) (de_ty ca_int T.n_int boot_int (da_cons (de_var 0) da_nil)) de_int)) de_int) ?_) (rt_same)
  unfold endV
  have e : ((a : Int) % 3) = ((a % 3 : Nat) : Int) := by omega
  rw [e, Int.add_sub_assoc]
theorem sc_law_endtext : FnScope ["_law_at", "_law_base"] ["_law_at"] (defScope (top 106)) := ⟨rfl, rfl, rfl, by decide +kernel, rfl, by decide +kernel, by decide +kernel⟩
theorem fn_law_endtext (T : Tx K w mg A) {a : Nat} (ha : a < 18) : FnG P w K mg base "_law_endtext" 1 [is (.int a)] [] [] (rS (endT a)) :=
  fng_of T.d_law_endtext sc_law_endtext rfl (fun _ _ _ _ _ _ us hl => match us, hl with | [_], _ => rfl) fun f cdv Ar outer s H E hr => by
  -- if _law_at < 3:
  refine dss_when (dt_cmp od_lt (de_var 0) de_int) (fun hc => ?_) (fun hc => ?_)
  · have hc := of_decide_eq_true hc
    -- return str(_law_at - 1)
    refine dss_ret (de_eq (de_ty (ca_str (i := (a : Int) - 1) ?_) T.n_str boot_str (da_cons (de_bin od_sub (de_var 0) de_int) da_nil)) (by rw [rS, endT_low a (by omega)])) (rt_same)
    have : ∀ a : Nat, a < 3 → ((a : Int) - 1).natAbs.log2 < 1920 := by decide +kernel
    exact this a (by omega)
  have hc := of_decide_eq_false hc
  obtain ⟨e1, e2, e3⟩ := endT_cat a ha (by omega)
  -- _law_base = ['n//2', '(n+1)//2', 'n', 'i', 'n-i'][_law_at // 3 - 1]
  refine dss_set 1 (P := rS (baTs.getD (a / 3 - 1) "")) (de_ixL (i := ((a / 3 - 1 : Nat) : Int)) (de_eq (P' := rLi K (baTs.map rS)) (de_lst (da_cons de_str (da_cons de_str (da_cons de_str (da_cons de_str (da_cons de_str da_nil)))))) rfl) (de_eq (de_bin od_sub (de_bin (od_fdiv (by decide) (by decide)) (de_var 0) de_int) de_int) ?_) (atI_k (a / 3 - 1) ?_)) ?_ sc_law_endtext.nd
  · have : ((a : Int) / 3 - 1) = ((a / 3 - 1 : Nat) : Int) := by omega
    rw [this]
  · have hl : a / 3 - 1 < baTs.length := by
      have : baTs.length = 5 := rfl
      omega
    rw [List.getElem?_map, List.getElem?_eq_getElem hl, List.getD_eq_getElem?_getD, List.getElem?_eq_getElem hl]
    rfl
  -- return _law_base + ['-1', '', '+1'][int(_law_at) % 3]
  refine dss_ret (de_eq (de_bin (od_addS (i := baTs.getD (a / 3 - 1) "") (j := suTs.getD (a % 3) "") (by omega)) (de_var 1) (de_ixL (P := rS (suTs.getD (a % 3) "")) (i := ((a % 3 : Nat) : Int)) (de_eq (P' := rLi K (suTs.map rS)) (de_lst (da_cons de_str (da_cons de_str (da_cons de_str da_nil)))) rfl) (de_eq (de_bin (od_mod (by decide)) (de_ty ca_int T.n_int boot_int (da_cons (de_var 0) da_nil)) de_int) ?_) (atI_k (a % 3) ?_))) (by rw [rS, e1])) (rt_same)
  · have : ((a : Int) % 3) = ((a % 3 : Nat) : Int) := by omega
    rw [this]
  · have hl : a % 3 < suTs.length := by
      have : suTs.length = 3 := rfl
      omega
    rw [List.getElem?_map, List.getElem?_eq_getElem hl, List.getD_eq_getElem?_getD, List.getElem?_eq_getElem hl]
    rfl
theorem sc_law_looptext : FnScope ["_law_loop_here"] ["_law_loop_here"] (defScope (top 108)) := ⟨rfl, rfl, rfl, by decide +kernel, rfl, by decide +kernel, by decide +kernel⟩
theorem fn_law_looptext (T : Tx K w mg A) {l : Lp} (h : l.ok 18) : FnG P w K mg base "_law_looptext" 2 [rLp K l] [] [] (rS l.t) :=
  fng_of T.d_law_looptext sc_law_looptext rfl (fun _ _ _ _ _ _ us hl => match us, hl with | [_], _ => rfl) fun f cdv Ar outer s H E hr => by
  have f1 := endT_split l.a h.1
  have f2 := endT_split l.b h.2
  have e1 : (" to " : Str).length = 4 := by decide +kernel
  have e2 : (" down" : Str).length = 5 := by decide +kernel
  have e3 : ("" : Str).length = 0 := by decide +kernel
  -- return _law_endtext(_law_loop_here[0]) + ' to ' + _law_endtext(_law_loop_here[1]) + (' down' if _law_loop_here
  refine dss_ret (de_eq (de_bin (od_addS (i := endT l.a ++ " to " ++ endT l.b) (j := (if l.d = true then (" down" : Str) else ("" : Str))) ?_) (de_bin (od_addS (i := endT l.a ++ " to ") (j := endT l.b) ?_) (de_bin (od_addS (i := endT l.a) ?_) (de_call (fn_law_endtext T h.1) hr (da_cons (de_ixT (de_var 0) de_int (atI_k 0 rfl)) da_nil)) de_str) (de_call (fn_law_endtext T h.2) hr (da_cons (de_ixT (de_var 0) de_int (atI_k 1 rfl)) da_nil))) (de_if (k := l.d) (dt_val (de_ixT (P := is (.bl l.d)) (de_var 0) de_int (atI_k 2 rfl))) (fun z => de_eq de_str (by rw [if_pos z])) (fun z => de_eq de_str (by rw [z]; rfl)))) rfl) (rt_same)
  · rw [len_app, len_app, e1]
    cases l.d with
    | true =>
      show _ + (" down" : Str).length ≤ _
      rw [e2]
      omega
    | false =>
      show _ + ("" : Str).length ≤ _
      rw [e3]
      omega
  · rw [len_app, e1]
    omega
  · rw [e1]
    omega
end
end
end SQ
end
section
set_option maxHeartbeats 400000
namespace SQ
open PySem PySem.Spec PyProof.Rows L2 StX ClX
noncomputable section
def usO : List (Int × Int) := [(1, 10), (1, 4), (1, 7), (1, 9), (4, 10), (7, 10)]
def usI : List (Int × Int) := [(1, 13), (13, 10), (14, 10), (13, 15), (13, 16), (16, 10), (1, 15)]
def usL (inn : Bool) : List (Int × Int) := if inn = true then usO ++ usI else usO
theorem usL_ok : ∀ inn, ∀ x ∈ usL inn, (0 ≤ x.1 ∧ x.1 < (mLp inn : Nat)) ∧ (0 ≤ x.2 ∧ x.2 < (mLp inn : Nat)) := by
  intro inn
  cases inn <;> decide +kernel
theorem usL_len : ∀ inn, 0 < (usL inn).length ∧ (usL inn).length ≤ 13 := by
  intro inn
  cases inn <;> decide +kernel
def rPr (x : Int × Int) : VP := rTr [.int x.1, .int x.2]
def PLp (inn : Bool) : Int → Prop := fun z => 0 ≤ z ∧ z < (mLp inn : Nat)
section
variable {P : Program} {w : World} {K : PySem.W.Frag} {mg : Str → Option Value} {base : Heap} {A : Ad}
/-- one of the loops -/
def eLp (K : PySem.W.Frag) (inn : Bool) : VP := rE (ι := {l : Lp // l.ok (mLp inn)}) fun l => rLp K l.1
theorem sc_law_loop : FnScope ["_law_purl_here", "_law_inner", "_law_down", "_law_usual", "_law_first", "_law_second", "_law_many"] ["_law_purl_here", "_law_inner"] (defScope (top 107)) := ⟨rfl, rfl, rfl, by decide +kernel, rfl, by decide +kernel, by decide +kernel⟩
theorem lp_tu {K : PySem.W.Frag} {inn : Bool} {a b : Int} {d : Bool} {v : V} {H : Hp} (ha : PLp inn a) (hb : PLp inn b) (h : Bx (rTu K [is (.int a), is (.int b), is (.bl d)]) v H) : Bx (eLp K inn) v H := by
  refine bx_eI ⟨⟨a.toNat, b.toNat, d⟩, ?_⟩ ?_
  · unfold PLp at ha hb
    exact ⟨by show a.toNat < _; omega, by show b.toNat < _; omega⟩
  · have e1 : ((a.toNat : Nat) : Int) = a := by unfold PLp at ha; omega
    have e2 : ((b.toNat : Nat) : Int) = b := by unfold PLp at hb; omega
    show Bx (rTu K [is (.int ((a.toNat : Nat) : Int)), is (.int ((b.toNat : Nat) : Int)), is (.bl d)]) v H
    rw [e1, e2]
    exact h
theorem lp_zz {K : PySem.W.Frag} {inn : Bool} {d : Bool} {v : V} {H : Hp} (h : Bx (rTu K [rZ (PLp inn), rZ (PLp inn), is (.bl d)]) v H) : Bx (eLp K inn) v H := by
  obtain ⟨t, us, rfl, hq, r⟩ := h.here
  cases r with
  | cons r1 r => cases r with
    | cons r2 r =>
      obtain ⟨a, ha, rfl⟩ := bx_z r1
      obtain ⟨b, hb, rfl⟩ := bx_z r2
      exact lp_tu ha hb (bx_tu hq (.cons bx_is (.cons bx_is r)))
theorem fn_law_loop (T : Tx K w mg A) {q : Addr} {inn : Bool} : FnG P w K mg base "_law_loop" 2 [is (.ref q), is (.bl inn)] [(q, oPu)] [(q, oPu)] (eLp K inn) :=
  fng_of T.d_law_loop sc_law_loop rfl (fun _ _ _ _ _ _ us hl => match us, hl with | [_, _], _ => rfl) fun f cdv Ar outer s H E hr => by
  -- _law_down = _law_dig(_law_purl_here, 4) == 0
  refine dss_set 2 (de_cmp od_eqZ (de_callO (fn_law_dig T (k := 4) (by decide)) hr (da_cons (de_var 0) (da_cons de_int da_nil))) de_int) ?_ sc_law_loop.nd
  refine dss_exE 2 fun x => ?_
  generalize decide (x.1 = 0) = down
  cases inn with
  | true =>
    -- if _law_dig(_law_purl_here, 2) == 0:
    refine dss_ifE (dt_cmpE od_eqZ (de_callO (fn_law_dig T (k := 2) (by decide)) hr (da_cons (de_var 0) (da_cons de_int da_nil))) de_int) ?_ (dss_nil ?_)
    · -- _law_usual = ..
      refine dss_set 3 (de_lst (da_cons (de_tupV [_, _] (da_cons de_int (da_cons de_int da_nil))) (da_cons (de_tupV [_, _] (da_cons de_int (da_cons de_int da_nil))) (da_cons (de_tupV [_, _] (da_cons de_int (da_cons de_int da_nil))) (da_cons (de_tupV [_, _] (da_cons de_int (da_cons de_int da_nil))) (da_cons (de_tupV [_, _] (da_cons de_int (da_cons de_int da_nil))) (da_cons (de_tupV [_, _] (da_cons de_int (da_cons de_int da_nil))) da_nil))))))) ?_ sc_law_loop.nd
      refine dss_if (k := true) (dt_val (de_var 1)) (fun _ => ?_) (fun z => nomatch z)
      refine dss_set 3 (P := rLi K ((usL true).map rPr)) (de_eq (de_bin (od_cat (Ps := usO.map rPr) (Qs := usI.map rPr) (by decide)) (de_var 3) (de_eq (de_lst (da_cons (de_tupV [_, _] (da_cons de_int (da_cons de_int da_nil))) (da_cons (de_tupV [_, _] (da_cons de_int (da_cons de_int da_nil))) (da_cons (de_tupV [_, _] (da_cons de_int (da_cons de_int da_nil))) (da_cons (de_tupV [_, _] (da_cons de_int (da_cons de_int da_nil))) (da_cons (de_tupV [_, _] (da_cons de_int (da_cons de_int da_nil))) (da_cons (de_tupV [_, _] (da_cons de_int (da_cons de_int da_nil))) (da_cons (de_tupV [_, _] (da_cons de_int (da_cons de_int da_nil))) da_nil)))))))) rfl)) rfl) (dss_nil ?_) sc_law_loop.nd
      -- _law_first, _law_second = _law_usual[_law_dig(_law_purl_here, len(_law_usual))]
      refine dss_asg (P := rTu K [rZ (PLp true), rZ (PLp true)]) (de_to (de_ixE (p := dgP ((usL true).length : Int)) (R := fun x : {x : Int × Int // PLp true x.1 ∧ PLp true x.2} => rPr x.1) (de_var 3) (de_callO (fn_law_dig T (k := ((usL true).length : Int)) (by have := usL_len true; omega)) hr (da_cons (de_var 0) (da_cons (de_eq (de_bi ca_lenL T.n_len boot_len (da_cons (de_var 3) da_nil)) (by rw [List.length_map])) da_nil))) ?_) ?_) (dg_tup (dgs_cons (dg_name 4 sc_law_loop.nd) (dgs_cons (dg_name 5 sc_law_loop.nd) dgs_nil))) ?_
      · intro z hz
        obtain ⟨z1, z2⟩ := hz
        have hl : z.toNat < (usL true).length := by omega
        refine ⟨⟨(usL true)[z.toNat], usL_ok true _ (List.getElem_mem hl)⟩, atI_k z.toNat ?_ (by omega)⟩
        rw [List.getElem?_map, List.getElem?_eq_getElem hl]
        rfl
      · intro v H h
        obtain ⟨x, hx⟩ := bx_e h
        obtain ⟨t, us, rfl, hq, r⟩ := (tr_tu (K := K) hx).here
        refine bx_tu hq ?_
        cases r with
        | cons r1 r => cases r with
          | cons r2 r =>
            cases r
            refine .cons ?_ (.cons ?_ .nil)
            · rw [r1.eq]
              exact bx_zI x.2.1
            · rw [r2.eq]
              exact bx_zI x.2.2
      refine dss_exZ 4 fun a ha => dss_exZ 5 fun b hb => ?_
      -- return (_law_first, _law_second, _law_down)
      exact dss_ret (de_tup (da_cons (de_var 4) (da_cons (de_var 5) (da_cons (de_var 2) da_nil)))) (rt_to fun v H h => lp_tu (inn := true) ha hb h)

    -- _law_many = 18 if _law_inner else 12
    refine dss_set 6 (de_if (k := true) (dt_val (de_var 1)) (fun _ => de_int) (fun z => nomatch z)) ?_ sc_law_loop.nd
    -- return (dig, dig, down)
    refine dss_ret (de_tup (da_cons (de_callO (fn_law_dig T (k := 18) (by decide)) hr (da_cons (de_var 0) (da_cons (de_var 6) da_nil))) (da_cons (de_callO (fn_law_dig T (k := 18) (by decide)) hr (da_cons (de_var 0) (da_cons (de_var 6) da_nil))) (da_cons (de_var 2) da_nil)))) (rt_to fun v H h => lp_zz (inn := true) h)
  | false =>
    -- if _law_dig(_law_purl_here, 2) == 0:
    refine dss_ifE (dt_cmpE od_eqZ (de_callO (fn_law_dig T (k := 2) (by decide)) hr (da_cons (de_var 0) (da_cons de_int da_nil))) de_int) ?_ (dss_nil ?_)
    · -- _law_usual = ..
      refine dss_set 3 (P := rLi K ((usL false).map rPr)) (de_eq (de_lst (da_cons (de_tupV [_, _] (da_cons de_int (da_cons de_int da_nil))) (da_cons (de_tupV [_, _] (da_cons de_int (da_cons de_int da_nil))) (da_cons (de_tupV [_, _] (da_cons de_int (da_cons de_int da_nil))) (da_cons (de_tupV [_, _] (da_cons de_int (da_cons de_int da_nil))) (da_cons (de_tupV [_, _] (da_cons de_int (da_cons de_int da_nil))) (da_cons (de_tupV [_, _] (da_cons de_int (da_cons de_int da_nil))) da_nil))))))) rfl) ?_ sc_law_loop.nd
      refine dss_if (k := false) (dt_val (de_var 1)) (fun z => nomatch z) (fun _ => dss_nil ?_)
      -- _law_first, _law_second = _law_usual[_law_dig(_law_purl_here, len(_law_usual))]
      refine dss_asg (P := rTu K [rZ (PLp false), rZ (PLp false)]) (de_to (de_ixE (p := dgP ((usL false).length : Int)) (R := fun x : {x : Int × Int // PLp false x.1 ∧ PLp false x.2} => rPr x.1) (de_var 3) (de_callO (fn_law_dig T (k := ((usL false).length : Int)) (by have := usL_len false; omega)) hr (da_cons (de_var 0) (da_cons (de_eq (de_bi ca_lenL T.n_len boot_len (da_cons (de_var 3) da_nil)) (by rw [List.length_map])) da_nil))) ?_) ?_) (dg_tup (dgs_cons (dg_name 4 sc_law_loop.nd) (dgs_cons (dg_name 5 sc_law_loop.nd) dgs_nil))) ?_
      · intro z hz
        obtain ⟨z1, z2⟩ := hz
        have hl : z.toNat < (usL false).length := by omega
        refine ⟨⟨(usL false)[z.toNat], usL_ok false _ (List.getElem_mem hl)⟩, atI_k z.toNat ?_ (by omega)⟩
        rw [List.getElem?_map, List.getElem?_eq_getElem hl]
        rfl
      · intro v H h
        obtain ⟨x, hx⟩ := bx_e h
        obtain ⟨t, us, rfl, hq, r⟩ := (tr_tu (K := K) hx).here
        refine bx_tu hq ?_
        cases r with
        | cons r1 r => cases r with
          | cons r2 r =>
            cases r
            refine .cons ?_ (.cons ?_ .nil)
            · rw [r1.eq]
              exact bx_zI x.2.1
            · rw [r2.eq]
              exact bx_zI x.2.2
      refine dss_exZ 4 fun a ha => dss_exZ 5 fun b hb => ?_
      -- return (_law_first, _law_second, _law_down)
      exact dss_ret (de_tup (da_cons (de_var 4) (da_cons (de_var 5) (da_cons (de_var 2) da_nil)))) (rt_to fun v H h => lp_tu (inn := false) ha hb h)

    -- _law_many = 18 if _law_inner else 12
    refine dss_set 6 (de_if (k := false) (dt_val (de_var 1)) (fun z => nomatch z) (fun _ => de_int)) ?_ sc_law_loop.nd
    -- return (dig, dig, down)
    refine dss_ret (de_tup (da_cons (de_callO (fn_law_dig T (k := 12) (by decide)) hr (da_cons (de_var 0) (da_cons (de_var 6) da_nil))) (da_cons (de_callO (fn_law_dig T (k := 12) (by decide)) hr (da_cons (de_var 0) (da_cons (de_var 6) da_nil))) (da_cons (de_var 2) da_nil)))) (rt_to fun v H h => lp_zz (inn := false) h)
end
end
end SQ
end
section
set_option maxHeartbeats 400000
namespace SQ
open PySem PySem.Spec PyProof.Rows L2 StX ClX
noncomputable section
def rNt (k : Nat) : VP := is (.int (k : Nat))
def wcs : List Nat := [0, 1, 2, 3, 2, 3]
/-- a guard, a deed, a nest of the plan -/
def rGd (K : PySem.W.Frag) : Gd3 → VP
  | none => is .non
  | some (a, s, b) => rTu K [rNt a, rNt s, rNt b]
def rLD (K : PySem.W.Frag) (D : LD) : VP := rTu K [rS (wdT D.wd), rLi K (D.sp.map rNt), rGd K D.gd]
def eLD (K : PySem.W.Frag) : VP := rE (ι := {D : LD // D.ok}) fun D => rLD K D.1
section
variable {X : Cx} {G : Gm} {W : Ow} {D : DEn} {rest : List Stmt} {a b : Expr} {x : Str} {pos : Pos} {P1 : VP} {C : OC}
/-- a, b = e1, e2, e2 a new object -/
theorem dss_parN (i j : Nat) {y : Str} {px py pt : Pos} {kt k2 pt2} (ha : DE X G W a P1) (hb : DN X G W b C) (h : ∀ r, DSs X ((G.set i (some P1)).set j (some (is (.ref r)))) ((r, C) :: W) rest D) (hN : X.N.Nodup) (hij : i ≠ j := by decide) (hi : X.N[i]? = some x := by rfl) (hj : X.N[j]? = some y := by rfl)
    (hc : X.calm = true := by rfl) (hx : X.env.scope.names.lookup x = some .local := by rfl) (hy : X.env.scope.names.lookup y = some .local := by rfl)
    (hw : swappedStores [.Tuple [.Name x px, .Name y py] kt pt] (.Tuple [a, b] k2 pt2) X.env = pure (some [x, y]) := by rfl)
    (hs : swapsWithSole [.Tuple [.Name x px, .Name y py] kt pt] (.Tuple [a, b] k2 pt2) pos.line X.env = pure false := by rfl)
    (he : starEach [b] X.env = [(false, eval b X.env)] := by rfl) (he2 : starEach (a :: [b]) X.env = (false, eval a X.env) :: starEach [b] X.env := by rfl) :
    DSs X G W (.Assign [.Tuple [.Name x px, .Name y py] kt pt] (.Tuple [a, b] k2 pt2) pos :: rest) D := by
  have hp : PA X [a, b] (fun s H Q => ∃ c, StOk c G W s H ∧ ∀ v r H', StOk c G ((r, C) :: W) s H' → Bx P1 v (vis c ((r, C) :: W) H') → Q [v, .ref r] H') :=
    PA.to (pa_cons ha (pa_cons hb pa_nil he) he2) fun s H Q ⟨c, S, kq⟩ => ⟨c, S, fun v H1 S1 e1 b1 => ⟨c, S1, fun r H2 S2 e2 n => kq v r H2 S2 (b1.mono e2)⟩⟩
  exact dss_cons (PS.to (ps_par hc hN hi hj hij hx hy hp hw hs) fun E s H ⟨c, S, eo⟩ => ⟨c, S, fun v r H' S' b1 => ⟨_, _, rfl, eo.nx _ _ _ H' (h r) ((S'.setE i b1).setE (P := is (.ref r)) j bx_is)⟩⟩)
end
theorem split3 {l : List Nat} {z : Nat} (h : z < l.length) : (l.take z ++ l[z] :: l.drop (z + 1)) = l := by
  rw [List.getElem_cons_drop, List.take_append_drop]
section
variable {P : Program} {w : World} {K : PySem.W.Frag} {mg : Str → Option Value} {base : Heap} {A : Ad}
theorem sc_law_deed : FnScope ["_law_purl_here", "_law_word", "_law_many", "_law_left", "_law_spots_here", "_law_k", "_law_at", "_law_guard", "_law_one", "_law_other"] ["_law_purl_here"] (defScope (top 109)) := ⟨rfl, rfl, rfl, by decide +kernel, rfl, by decide +kernel, by decide +kernel⟩
theorem fn_law_deed (T : Tx K w mg A) {q : Addr} : FnG P w K mg base "_law_deed" 2 [is (.ref q)] [(q, oPu)] [(q, oPu)] (eLD K) :=
  fng_of T.d_law_deed sc_law_deed rfl (fun _ _ _ _ _ _ us hl => match us, hl with | [_], _ => rfl) fun f cdv Ar outer s H E hr => by
  -- _law_word = ['swap', 'copy', 'order', 'turn', 'order', 'turn'][_law_dig(_law_purl_here, 6)]
  refine dss_set 1 (de_ixE (p := dgP 6) (Ps := wcs.map fun c => rS (wdT c)) (R := fun c : {c : Nat // c < 4} => rS (wdT c.1)) (de_eq (de_lst (da_cons de_str (da_cons de_str (da_cons de_str (da_cons de_str (da_cons de_str (da_cons de_str da_nil))))))) rfl) (de_callO (fn_law_dig T (k := 6) (by decide)) hr (da_cons (de_var 0) (da_cons de_int da_nil))) ?_) ?_ sc_law_deed.nd
  · intro z hz
    obtain ⟨z1, z2⟩ := hz
    have hl : z.toNat < wcs.length := by
      have : wcs.length = 6 := rfl
      omega
    have hw : ∀ c ∈ wcs, c < 4 := by decide
    refine ⟨⟨wcs[z.toNat], hw _ (List.getElem_mem hl)⟩, atI_k z.toNat ?_ (by omega)⟩
    rw [List.getElem?_map, List.getElem?_eq_getElem hl]
    rfl
  refine dss_exE (R := fun c : {c : Nat // c < 4} => rS (wdT c.1)) 1 ?_
  rintro ⟨c, hc⟩
  dsimp only
  have e3 : ("turn" : Str) = wdT 3 := by decide +kernel
  -- _law_many = 3 + _law_dig(_law_purl_here, 6) if _law_word == 'turn' else 2
  refine dss_set 2 (P := rZ fun z => (c = 3 ∧ 3 ≤ z ∧ z < 9) ∨ (c ≠ 3 ∧ z = 2)) (de_if (k := decide (c = 3)) (dt_eq (dt_cmp (od_eqS (i := wdT c) (j := wdT 3)) (de_var 1) (de_eq de_str (by rw [e3]))) (wd_eq c hc 3 (by decide))) (fun h => de_bin (od_Z2 (g := fun x => 3 + x) (p := dgP 6) (fun x _ => od_add) (fun x hx => .inl ⟨of_decide_eq_true h, by have := hx.1; omega, by have := hx.2; omega⟩)) de_int (de_callO (fn_law_dig T (k := 6) (by decide)) hr (da_cons (de_var 0) (da_cons de_int da_nil)))) (fun h => de_to de_int fun v H b => by rw [b.eq]; exact bx_zI (.inr ⟨of_decide_eq_false h, rfl⟩))) ?_ sc_law_deed.nd
  refine dss_exZ 2 fun z hz => ?_
  have hz8 : 2 ≤ z ∧ z < 9 := by omega
  obtain ⟨N, rfl⟩ : ∃ N : Nat, z = (N : Nat) := ⟨z.toNat, by omega⟩
  -- _law_left, _law_spots_here = ([0, 1, 2, 3, 4, 5, 6, 7], [])
  refine dss_parN 3 4 (P1 := rLi K ((List.range 8).map rNt)) (de_eq (de_lst (da_cons de_int (da_cons de_int (da_cons de_int (da_cons de_int (da_cons de_int (da_cons de_int (da_cons de_int (da_cons de_int da_nil))))))))) rfl) (dn_lst da_nil) (fun r => ?_) sc_law_deed.nd
  -- for _law_k in range(_law_many):
  refine dss_for (Iv := fun m G W => ∃ (ls ss : List Nat) (o5 o6 : Option VP), ss.length = m ∧ ls.length + m = 8 ∧ (ss ++ ls).Nodup ∧ (∀ s ∈ ss ++ ls, s < 8) ∧ G = [some (is (.ref q)), some (rS (wdT c)), some (is (.int N)), some (rLi K (ls.map rNt)), some (is (.ref r)), o5, o6, none, none, none] ∧ W = [(r, oLi (ss.map rNt)), (q, oPu)]) (di_range1 T.n_range (da_cons (de_var 2) da_nil) (by omega)) (fun P hP => (dg_name 5 sc_law_deed.nd)) ⟨List.range 8, [], _, _, rfl, rfl, by decide, by decide, rfl, rfl⟩ (fun m P G1 W1 hP hI => ?_) (fun G1 W1 hI => ?_)
  · obtain ⟨ls, ss, o5, o6, l1, l2, nd, lt, rfl, rfl⟩ := hI
    obtain ⟨rfl, hm⟩ := rg_at hP
    have hm : m < N := hm
    have ez : (0 : Int) + (m : Nat) = (m : Nat) := by omega
    rw [ez]
    -- _law_at = _law_dig(_law_purl_here, 8 - _law_k)
    refine dss_set 6 (de_callO (fn_law_dig T (q := q) (k := 8 - (m : Nat)) (by omega)) hr (da_cons (de_var 0) (da_cons (de_bin od_sub de_int (de_var 5)) da_nil)) (List.mem_cons_of_mem _ List.mem_cons_self)) ?_ sc_law_deed.nd
    refine dss_exZ 6 fun z hz => ?_
    obtain ⟨z1, z2⟩ := hz
    obtain ⟨t, rfl⟩ : ∃ t : Nat, z = (t : Nat) := ⟨z.toNat, by omega⟩
    have ht : t < ls.length := by omega
    -- _law_spots_here.append(_law_left[_law_at])
    refine dss_expr (P := is .non) (dx_append1 (P := rNt ls[t]) (de_var 4) (de_ixL (i := (t : Nat)) (de_var 3) (de_var 6) (atI_k t (by rw [List.getElem?_map, List.getElem?_eq_getElem ht]; rfl))) (by rw [List.length_map]; omega)) ?_
    -- _law_left = _law_left[:_law_at] + _law_left[_law_at + 1:]
    refine dss_set 3 (P := rLi K ((ls.take t ++ ls.drop (t + 1)).map rNt)) (de_eq (de_bin (od_cat (Ps := (ls.take t).map rNt) (Qs := (ls.drop (t + 1)).map rNt) (by rw [List.length_map, List.length_map, List.length_take, List.length_drop]; omega)) (de_eq (de_slL (de_var 3) do_none (do_some (de_var 6))) (by rw [cutP_to (k := t) rfl, List.map_take])) (de_eq (de_slL (de_var 3) (do_some (de_bin od_add (de_var 6) de_int)) do_none) (by rw [cutP_from (k := t + 1) (by omega), List.map_drop]))) (by rw [List.map_append]; rfl)) (dss_nil ?_) sc_law_deed.nd
    have pm : (ss ++ ls).Perm ((ss ++ [ls[t]]) ++ (ls.take t ++ ls.drop (t + 1))) := by
      rw [List.append_assoc]
      refine List.Perm.append_left ss ?_
      have := split3 ht
      exact (List.Perm.of_eq this.symm).trans (List.perm_middle)
    refine ⟨ls.take t ++ ls.drop (t + 1), ss ++ [ls[t]], _, _, by rw [List.length_append, l1]; rfl, ?_, pm.nodup_iff.mp nd, fun s hs => lt s (pm.mem_iff.mpr hs), rfl, by rw [List.map_append]; rfl⟩
    rw [List.length_append, List.length_take, List.length_drop]
    omega
  · obtain ⟨ls, ss, o5, o6, l1, l2, nd, lt, rfl, rfl⟩ := hI
    have l1 : ss.length = N := l1.trans rg_len
    refine dss_freeL 4 ?_
    have hnd : ss.Nodup := (List.nodup_append.mp nd).1
    have h8 : ∀ s ∈ ss, s < 8 := fun s hs => lt s (List.mem_append_left _ hs)
    have fin : ∀ {g : Gd3} {v : V} {H : Hp}, g.ok → Bx (rTu K [rS (wdT c), rLi K (ss.map rNt), rGd K g]) v H → Bx (eLD K) v H := fun {g v H} hg hb => by
      refine bx_eI ⟨⟨c, ss, g⟩, ⟨hc, h8, hnd, fun h => ?_, fun h => ?_, hg⟩⟩ hb
      · show ss.length = 2
        have : c < 3 := h
        omega
      · show 3 ≤ ss.length ∧ ss.length ≤ 8
        have : c = 3 := h
        omega
    -- _law_guard = None
    refine dss_set 7 de_non ?_ sc_law_deed.nd
    -- if _law_dig(_law_purl_here, 3) == 0:
    refine dss_ifE (dt_cmpE od_eqZ (de_callO (fn_law_dig T (k := 3) (by decide)) hr (da_cons (de_var 0) (da_cons de_int da_nil))) de_int) ?_ (dss_nil ?_)
    · -- _law_one, _law_other = (_law_dig(_law_purl_here, 4), _law_dig(_law_purl_here, 3))
      refine dss_par 8 9 (da_cons (de_callO (fn_law_dig T (k := 4) (by decide)) hr (da_cons (de_var 0) (da_cons de_int da_nil))) (da_cons (de_callO (fn_law_dig T (k := 3) (by decide)) hr (da_cons (de_var 0) (da_cons de_int da_nil))) da_nil)) ?_ sc_law_deed.nd
      refine dss_exZ 8 fun z1 hz1 => dss_exZ 9 fun z2 hz2 => ?_
      obtain ⟨y1, y2⟩ := hz1
      obtain ⟨y3, y4⟩ := hz2
      obtain ⟨a, rfl⟩ : ∃ a : Nat, z1 = (a : Nat) := ⟨z1.toNat, by omega⟩
      obtain ⟨b, rfl⟩ : ∃ b : Nat, z2 = (b : Nat) := ⟨z2.toNat, by omega⟩
      -- _law_guard = (_law_one, _law_dig(_law_purl_here, 4), _law_other if _law_other < _law_one else _law_other + 1)
      refine dss_set 7 (P := rTu K [rNt a, rZ (dgP 4), rNt (if b < a then b else b + 1)]) (de_tup (da_cons (de_var 8) (da_cons (de_callO (fn_law_dig T (k := 4) (by decide)) hr (da_cons (de_var 0) (da_cons de_int da_nil))) (da_cons (de_if (k := decide ((b : Int) < a)) (dt_cmp od_lt (de_var 9) (de_var 8)) (fun h => de_eq (de_var 9) (by rw [if_pos (by have := of_decide_eq_true h; omega)]; rfl)) (fun h => de_eq (de_bin od_add (de_var 9) de_int) (by rw [if_neg (by have := of_decide_eq_false h; omega)]; rfl))) da_nil)))) (dss_nil ?_) sc_law_deed.nd
      -- return (_law_word, _law_spots_here, _law_guard)
      refine dss_ret (de_tup (da_cons (de_var 1) (da_cons (de_var 4) (da_cons (de_var 7) da_nil)))) (rt_to fun v H h => ?_)
      obtain ⟨t, us, rfl, hq, r⟩ := h.here
      cases r with
      | cons r1 r => cases r with
        | cons r2 r => cases r with
          | cons r3 r =>
            cases r
            obtain ⟨t2, us2, rfl, hq2, rr⟩ := r3.here
            cases rr with
            | cons s1 rr => cases rr with
              | cons s2 rr => cases rr with
                | cons s3 rr =>
                  cases rr
                  obtain ⟨z, ⟨w1, w2⟩, rfl⟩ := bx_z s2
                  obtain ⟨d, rfl⟩ : ∃ d : Nat, z = (d : Nat) := ⟨z.toNat, by omega⟩
                  refine fin (g := some (a, d, if b < a then b else b + 1)) ⟨by omega, by omega, ?_, ?_⟩ (bx_tu hq (.cons r1 (.cons r2 (.cons (bx_tu hq2 (.cons s1 (.cons bx_is (.cons s3 .nil)))) .nil))))
                  · split <;> omega
                  · split <;> omega
    · -- return (_law_word, _law_spots_here, _law_guard)
      exact dss_ret (de_tup (da_cons (de_var 1) (da_cons (de_var 4) (da_cons (de_var 7) da_nil)))) (rt_to fun v H h => fin (g := none) trivial h)
end
end
end SQ
end
section
set_option maxHeartbeats 400000
namespace SQ
open PySem PySem.Spec PyProof.Rows L2 StX ClX
noncomputable section
theorem join_app (sep : Str) : ∀ {xs ys : List Str}, xs ≠ [] → Str.join sep (Str.join sep xs :: ys) = Str.join sep (xs ++ ys)
  | [], _, h => absurd rfl h
  | [x], ys, _ => rfl
  | x :: y :: xs, [], _ => by rw [List.append_nil]; rfl
  | x :: y :: xs, z :: ys, _ => by
    have ih := join_app sep (xs := y :: xs) (ys := z :: ys) (by simp)
    have e1 : Str.join sep (Str.join sep (x :: y :: xs) :: z :: ys) = (x ++ sep ++ Str.join sep (y :: xs)) ++ sep ++ Str.join sep (z :: ys) := rfl
    have e2 : Str.join sep (Str.join sep (y :: xs) :: z :: ys) = Str.join sep (y :: xs) ++ sep ++ Str.join sep (z :: ys) := rfl
    have e3 : Str.join sep ((x :: y :: xs) ++ z :: ys) = x ++ sep ++ Str.join sep ((y :: xs) ++ z :: ys) := rfl
    rw [e1, e3, ← ih, e2]
    simp only [Str.append_assoc]
theorem sum_len {B : Nat} : ∀ {ps : List Str}, (∀ p ∈ ps, p.length ≤ B) → (ps.map (·.length)).sum ≤ ps.length * B
  | [], _ => by simp
  | p :: ps, h => by
    have ih := sum_len (ps := ps) fun q hq => h q (List.mem_cons_of_mem _ hq)
    have h1 := h p List.mem_cons_self
    rw [List.map_cons, List.sum_cons, List.length_cons, Nat.succ_mul]
    omega
def rLN (K : PySem.W.Frag) (N : LN) : VP := rTu K [rLp K N.o, rLp K N.i, rLi K (N.ds.map (rLD K))]
def eLN (K : PySem.W.Frag) : VP := rE (ι := {N : LN // N.ok}) fun N => rLN K N.1
section
variable {P : Program} {w : World} {K : PySem.W.Frag} {mg : Str → Option Value} {base : Heap} {A : Ad}
theorem sc_law_deedtext : FnScope ["_law_deed_here", "_law_found", "_law_spot_here", "_law_one", "_law_sign", "_law_other", "_law_letters", "_law_signs"] ["_law_deed_here"] (defScope (top 110)) := ⟨rfl, rfl, rfl, by decide +kernel, rfl, by decide +kernel, by decide +kernel⟩
theorem fn_law_deedtext (T : Tx K w mg A) {D : LD} (h : D.ok) : FnG P w K mg base "_law_deedtext" 2 [rLD K D] [] [] (rS D.t) :=
  fng_of T.d_law_deedtext sc_law_deedtext rfl (fun _ _ _ _ _ _ us hl => match us, hl with | [_], _ => rfl) fun f cdv Ar outer s H E hr => by
  obtain ⟨l2, l8⟩ := h.le2
  have wl := D.wl_all h
  have sp1 : (" " : Str).length = 1 := by decide +kernel
  have hww : ∀ p ∈ D.ww, p.length ≤ 10 := fun p hp => (wl p (List.mem_append_left _ hp)).2
  have hwl : D.ww.length ≤ 9 := by simp [LD.ww]; omega
  -- _law_found = ' '.join([_law_deed_here[0]] + [_law_spots()[_law_spot_here] for _law_spot_here in _law_deed_here
  refine dss_set 1 (P := rS (Str.join " " D.ww)) (de_eq (de_join (i := " ") (ys := D.ww) de_str (de_eq (de_bin (od_cat (Ps := [rS (wdT D.wd)]) (Qs := D.sp.map fun s => rS (plT s)) (by rw [List.length_map]; simp; omega)) (de_lst (da_cons (de_ixT (de_var 0) de_int (atI_k 0 rfl)) da_nil)) (de_lcA (own := [("_law_spot_here", 2)]) (js := [2]) (xs := D.sp) (p := rNt) (r := fun s => rS (plT s)) (up := fun s G => G.set 2 (some (rNt s))) sc_law_deedtext.nd (di_list (de_ixT (P := rLi K (D.sp.map rNt)) (de_var 0) de_int (atI_k 1 rfl))) (blk_of (by kernel_rfl)) (by simp) (by omega) (fun s H C cl fp x hx => (dg_name 2 sc_law_deedtext.nd)) (fun s H C cl fp x hx => (de_ixL (i := (x : Nat)) (de_call0 (fn_law_spots T) hr) (de_var 2) (atI_k x ?_))))) ?_) ?_) ?_) ?_ sc_law_deedtext.nd
  · have hx8 := h.s8 x hx
    have hl : x < plTs.length := hx8
    rw [List.getElem?_map, List.getElem?_eq_getElem hl]
    show _ = some (rS (plTs.getD x ""))
    rw [List.getD_eq_getElem?_getD, List.getElem?_eq_getElem hl]
    rfl
  · unfold LD.ww
    rw [List.map_cons, List.map_map]
    rfl
  · have := sum_len hww
    rw [sp1]
    have h9 : D.ww.length * 10 ≤ 9 * 10 := Nat.mul_le_mul_right _ hwl
    omega
  · rw [TL.join_eq]
    rfl
  unfold LD.t LD.wl
  cases hg : D.gd with
  | none =>
    -- if _law_deed_here[2] is None: return _law_found
    refine dss_if (k := true) (dt_eq (dt_cmp od_isN (de_ixT (P := is .non) (de_var 0) de_int (atI_k 2 (by rw [hg]; rfl))) de_non) rfl) (fun _ => ?_) (fun z => nomatch z)
    exact dss_ret (de_eq (de_var 1) (by show _ = rS (Str.join " " (D.ww ++ [])); rw [List.append_nil])) (rt_same)
  | some g =>
    obtain ⟨a, sg, b⟩ := g
    have ho : Gd3.ok (some (a, sg, b)) := by rw [← hg]; exact h.g
    refine dss_ifF (dt_cmp (od_isNO ob_tu) (de_ixT (P := rTu K [rNt a, rNt sg, rNt b]) (de_var 0) de_int (atI_k 2 (by rw [hg]; rfl))) de_non) ?_
    -- _law_one, _law_sign, _law_other = _law_deed_here[2]
    refine dss_asg (de_ixT (P := rTu K [rNt a, rNt sg, rNt b]) (de_var 0) de_int (atI_k 2 (by rw [hg]; rfl))) (dg_tup (dgs_cons (dg_name 3 sc_law_deedtext.nd) (dgs_cons (dg_name 4 sc_law_deedtext.nd) (dgs_cons (dg_name 5 sc_law_deedtext.nd) dgs_nil)))) ?_
    -- _law_letters, _law_signs = (['i', 'j', '~i', '~j'], ['<', '<=', '==', '!='])
    refine dss_par 6 7 (P1 := rLi K (nmTs.map rS)) (P2 := rLi K (sgTs.map rS)) (da_cons (de_eq (de_lst (da_cons de_str (da_cons de_str (da_cons de_str (da_cons de_str da_nil))))) rfl) (da_cons (de_eq (de_lst (da_cons de_str (da_cons de_str (da_cons de_str (da_cons de_str da_nil))))) rfl) da_nil)) ?_ sc_law_deedtext.nd
    have nma : ∀ c, c < 4 → (nmTs.map rS)[c]? = some (rS (nmT c)) := fun c hc => by
      have hl : c < nmTs.length := hc
      rw [List.getElem?_map, List.getElem?_eq_getElem hl]
      show _ = some (rS (nmTs.getD c ""))
      rw [List.getD_eq_getElem?_getD, List.getElem?_eq_getElem hl]
      rfl
    have sga : ∀ c, c < 4 → (sgTs.map rS)[c]? = some (rS (sgT c)) := fun c hc => by
      have hl : c < sgTs.length := hc
      rw [List.getElem?_map, List.getElem?_eq_getElem hl]
      show _ = some (rS (sgTs.getD c ""))
      rw [List.getD_eq_getElem?_getD, List.getElem?_eq_getElem hl]
      rfl
    -- return ' '.join([_law_found, 'if', _law_letters[_law_one], _law_signs[_law_sign], _law_letters[_law_other]])
    refine dss_ret (de_eq (de_join (i := " ") (ys := [Str.join " " D.ww, "if", nmT a, sgT sg, nmT b]) de_str (de_eq (de_lst (da_cons (de_var 1) (da_cons de_str (da_cons (de_ixL (i := (a : Nat)) (de_var 6) (de_var 3) (atI_k a (nma a ho.1))) (da_cons (de_ixL (i := (sg : Nat)) (de_var 7) (de_var 4) (atI_k sg (sga sg ho.2.1))) (da_cons (de_ixL (i := (b : Nat)) (de_var 6) (de_var 5) (atI_k b (nma b ho.2.2.1))) da_nil)))))) rfl) ?_) ?_) (rt_same)
    · have j1 := join_len " " hww
      have f1 := (nm_free a ho.1).2
      have f2 := (sg_free sg ho.2.1).2
      have f3 := (nm_free b ho.2.2.1).2
      have f4 := if_free.2
      rw [sp1] at j1 ⊢
      have h9 : D.ww.length * (10 + 1) ≤ 9 * 11 := Nat.mul_le_mul_right _ hwl
      simp only [List.map_cons, List.map_nil, List.sum_cons, List.sum_nil, List.length_cons, List.length_nil]
      omega
    · rw [TL.join_eq, join_app " " (by simp [LD.ww])]
      rfl
theorem sc_law_nest : FnScope ["_law_purl_here", "_law_deeds_most", "_law_outer", "_law_inner", "_law_k"] ["_law_purl_here", "_law_deeds_most"] (defScope (top 111)) := ⟨rfl, rfl, rfl, by decide +kernel, rfl, by decide +kernel, by decide +kernel⟩
theorem fn_law_nest (T : Tx K w mg A) {q : Addr} : FnG P w K mg base "_law_nest" 3 [is (.ref q), is (.int 3)] [(q, oPu)] [(q, oPu)] (eLN K) :=
  fng_of T.d_law_nest sc_law_nest rfl (fun _ _ _ _ _ _ us hl => match us, hl with | [_, _], _ => rfl) fun f cdv Ar outer s H E hr => by
  -- _law_outer, _law_inner = (_law_loop(_law_purl_here, False), _law_loop(_law_purl_here, True))
  refine dss_par 2 3 (da_cons (de_callO (fn_law_loop T (inn := false)) hr (da_cons (de_var 0) (da_cons de_bl da_nil))) (da_cons (de_callO (fn_law_loop T (inn := true)) hr (da_cons (de_var 0) (da_cons de_bl da_nil))) da_nil)) ?_ sc_law_nest.nd
  refine dss_exE (R := fun l : {l : Lp // l.ok (mLp false)} => rLp K l.1) 2 ?_
  rintro ⟨lo, ho⟩
  refine dss_exE (R := fun l : {l : Lp // l.ok (mLp true)} => rLp K l.1) 3 ?_
  rintro ⟨li, hi⟩
  dsimp only
  -- return (_law_outer, _law_inner, [_law_deed(_law_purl_here) for _law_k in range(1 + _law_dig(_law_purl_here, _l
  refine dss_ret (de_tup (da_cons (de_var 2) (da_cons (de_var 3) (da_cons (de_lcE (ι := {n : Int // 1 ≤ n ∧ n ≤ 3}) (own := [("_law_k", 4)]) (js := [4]) (xs := fun n => List.range n.1.toNat) (p := fun (k : Nat) => is (.int (0 + (k : Nat)))) (r := fun _ => eLD K) (up := fun k G => G.set 4 (some (is (.int (0 + (k : Nat)))))) sc_law_nest.nd (pi_rangeZ T.n_range (da_cons (de_bin (od_Z2 (g := fun x => 1 + x) (p := dgP 3) (fun x _ => od_add) (fun x hx => ⟨by have := hx.1; omega, by have := hx.2; omega⟩)) de_int (de_callO (fn_law_dig T (k := 3) (by decide)) hr (da_cons (de_var 0) (da_cons (de_var 1) da_nil)))) da_nil) (fun n hn => by omega)) (blk_of (by kernel_rfl)) (by simp) (fun n => by rw [List.length_range]; have := n.2; omega) (fun s H C cl fp n x hx => (dg_name 4 sc_law_nest.nd)) (fun s H C cl fp n x hx => (de_callO (fn_law_deed T) hr (da_cons (de_var 0) da_nil)))) da_nil)))) (rt_to fun v H h => ?_)
  obtain ⟨t, us, rfl, hq, r⟩ := h.here
  cases r with
  | cons r1 r => cases r with
    | cons r2 r => cases r with
      | cons r3 r =>
        cases r
        obtain ⟨n, hn⟩ := bx_e r3
        have er : ((List.range n.1.toNat).map fun _ => eLD K) = List.replicate n.1.toNat (eLD K) := by
          rw [List.map_const', List.length_range]
        have hn : Bx (rLi K ((List.range n.1.toNat).map fun _ => eLD K)) _ H := hn
        rw [er] at hn
        obtain ⟨ys, hl, hb⟩ := li_e hn
        have hb : Bx (rLi K ((ys.map fun D : {D : LD // D.ok} => D.1).map (rLD K))) (_ : V) H := (show rLi K ((ys.map fun D : {D : LD // D.ok} => D.1).map (rLD K)) = rLi K (ys.map fun D : {D : LD // D.ok} => rLD K D.1) by rw [List.map_map]; rfl) ▸ hb
        refine bx_eI ⟨⟨lo, li, ys.map fun D : {D : LD // D.ok} => D.1⟩, ho, hi, fun D hD => ?_, ?_⟩ (bx_tu hq (.cons r1 (.cons r2 (.cons hb .nil))))
        · obtain ⟨y, _, rfl⟩ := List.mem_map.mp hD
          exact y.2
        · show (ys.map _).length ≤ 6
          rw [List.length_map, hl]
          have := n.2
          omega
theorem sc_law_plan : FnScope ["_law_purl_here", "_law_nests_most", "_law_deeds_most", "_law_k"] ["_law_purl_here", "_law_nests_most", "_law_deeds_most"] (defScope (top 112)) := ⟨rfl, rfl, rfl, by decide +kernel, rfl, by decide +kernel, by decide +kernel⟩
theorem fn_law_plan (T : Tx K w mg A) {q : Addr} : FnG P w K mg base "_law_plan" 4 [is (.ref q), is (.int 1), is (.int 3)] [(q, oPu)] [(q, oPu)] (rE (ι := {N : LN // N.ok}) fun N => rLi K [rLN K N.1]) :=
  fng_of T.d_law_plan sc_law_plan rfl (fun _ _ _ _ _ _ us hl => match us, hl with | [_, _, _], _ => rfl) fun f cdv Ar outer s H E hr => by
  -- return [_law_nest(_law_purl_here, _law_deeds_most) for _law_k in range(1 + _law_dig(_law_purl_here, _law_nests
  refine dss_ret (de_lcA (own := [("_law_k", 3)]) (js := [3]) (xs := [()]) (p := fun _ => is (.int 0)) (r := fun _ => eLN K) (up := fun _ G => G.set 3 (some (is (.int 0)))) sc_law_plan.nd (di_range1 (n := 1) T.n_range (da_cons (de_to (de_bin (od_Z2 (g := fun x => 1 + x) (p := dgP 1) (r := fun z => z = 1) (fun x _ => od_add) (fun x hx => by have h1 := hx.1; have h2 := hx.2; omega)) de_int (de_callO (fn_law_dig T (k := 1) (by decide)) hr (da_cons (de_var 0) (da_cons (de_var 1) da_nil)))) fun v H b => by obtain ⟨i, rfl, rfl⟩ := bx_z b; exact bx_is) da_nil) (by decide)) (blk_of (by kernel_rfl)) (by simp) (by decide) (fun s H C cl fp x hx => (dg_name 3 sc_law_plan.nd)) (fun s H C cl fp x hx => (de_callO (fn_law_nest T) hr (da_cons (de_var 0) (da_cons (de_var 2) da_nil))))) (rt_to fun v H h => ?_)
  obtain ⟨t, us, rfl, hq, r⟩ := h.here
  cases r with
  | cons r1 r =>
    cases r
    obtain ⟨N, hN⟩ := bx_e r1
    exact bx_eI N (bx_li hq (.cons hN .nil))
theorem sc_law_text : FnScope ["_law_plan_here", "_law_rows", "_law_outer", "_law_inner", "_law_deeds", "_law_deed_here"] ["_law_plan_here"] (defScope (top 113)) := ⟨rfl, rfl, rfl, by decide +kernel, rfl, by decide +kernel, by decide +kernel⟩
theorem fn_law_text (T : Tx K w mg A) {N : LN} (h : N.ok) : FnG P w K mg base "_law_text" 3 [rLi K [rLN K N]] [] [] (rS N.t) :=
  fng_of T.d_law_text sc_law_text rfl (fun _ _ _ _ _ _ us hl => match us, hl with | [_], _ => rfl) fun f cdv Ar outer s H E hr => by
  have f1 : ("i from " : Str).length = 7 := by decide +kernel
  have f2 : ("j from " : Str).length = 7 := by decide +kernel
  have f3 : ("\n" : Str).length = 1 := by decide +kernel
  have ho : N.o.ok 18 := ⟨by have := h.1.1; omega, by have := h.1.2; omega⟩
  have g1 := Lp.len ho (Nat.le_refl _)
  have g2 := Lp.len h.2.1 (Nat.le_refl _)
  have hn := N.rows_n h
  have hd := h.2.2.2
  -- _law_rows = []
  refine dss_set 1 (de_lst da_nil) ?_ sc_law_text.nd
  -- for _law_outer, _law_inner, _law_deeds in _law_plan_here:
  refine dss_forM (xs := [()]) (p := fun _ => rLN K N) (up := fun _ G => ((G.set 2 (some (rLp K N.o))).set 3 (some (rLp K N.i))).set 4 (some (rLi K (N.ds.map (rLD K))))) (Iv := fun m G W => (∃ o2 o3 o4, G = [some (rLi K [rLN K N]), some (rLi K ((if m = 0 then [] else N.rows).map rS)), o2, o3, o4, none]) ∧ W = []) (di_list (de_var 0)) (fun _ _ => (dg_tup (dgs_cons (dg_name 2 sc_law_text.nd) (dgs_cons (dg_name 3 sc_law_text.nd) (dgs_cons (dg_name 4 sc_law_text.nd) dgs_nil))))) ⟨⟨_, _, _, rfl⟩, rfl⟩ (fun m x G1 W1 hx hI => ?_) (fun G1 W1 hI => ?_)
  · obtain ⟨⟨o2, o3, o4, rfl⟩, rfl⟩ := hI
    have hm : m = 0 := by
      have := (List.getElem?_eq_some_iff.mp hx).1
      simpa using this
    subst hm
    -- _law_rows = _law_rows + ['i from ' + _law_looptext(_law_outer), 'j from ' + _law_looptext(_law_inner)]
    refine dss_set 1 (P := rLi K [rS ("i from " ++ N.o.t), rS ("j from " ++ N.i.t)]) (de_bin (od_cat (Ps := []) (Qs := [_, _]) (Nat.le_of_ble_eq_true rfl)) (de_var 1) (de_lst (da_cons (de_bin (od_addS (by omega)) de_str (de_call (fn_law_looptext T ho) hr (da_cons (de_var 2) da_nil))) (da_cons (de_bin (od_addS (by omega)) de_str (de_call (fn_law_looptext T h.2.1) hr (da_cons (de_var 3) da_nil))) da_nil)))) ?_ sc_law_text.nd
    -- _law_rows = _law_rows + [_law_deedtext(_law_deed_here) for _law_deed_here in _law_deeds]
    refine dss_set 1 (P := rLi K (N.rows.map rS)) (de_eq (de_bin (od_cat (Ps := [rS ("i from " ++ N.o.t), rS ("j from " ++ N.i.t)]) (Qs := N.ds.map fun D => rS D.t) (by rw [List.length_map]; simp; omega)) (de_var 1) (de_lcA (own := [("_law_deed_here", 5)]) (js := [5]) (xs := N.ds) (p := rLD K) (r := fun D => rS D.t) (up := fun D G => G.set 5 (some (rLD K D))) sc_law_text.nd (di_list (de_var 4)) (blk_of (by kernel_rfl)) (by simp) (by omega) (fun s H C cl fp x hx => (dg_name 5 sc_law_text.nd)) (fun s H C cl fp D hD => (de_call (fn_law_deedtext T (h.2.2.1 D hD)) hr (da_cons (de_var 5) da_nil))))) ?_) (dss_nil ⟨⟨_, _, _, rfl⟩, rfl⟩) sc_law_text.nd
    unfold LN.rows
    rw [List.map_cons, List.map_cons, List.map_map]
    rfl
  · obtain ⟨⟨o2, o3, o4, rfl⟩, rfl⟩ := hI
    -- return '\n'.join(_law_rows)
    refine dss_ret (de_eq (de_join (i := "\n") (ys := N.rows) de_str (de_var 1) ?_) (by rw [TL.join_eq]; rfl)) (rt_same)
    have := sum_len (N.rows_len h)
    have h9 : N.rows.length * 300 ≤ 8 * 300 := Nat.mul_le_mul_right _ hn
    rw [f3]
    omega
end
end
end SQ
end
section
set_option maxHeartbeats 400000
namespace SQ
open PySem PySem.Spec PyProof.Rows L2 StX ClX
noncomputable section
/-! the plain side of the law: rounds one by one -/
def stp0 (l : Lp) (n i : Int) : List Int := (List.range (endV l.b n i - endV l.a n i).toNat).map fun (k : Nat) => endV l.a n i + (k : Nat)
def stps (l : Lp) (n i : Int) : List Int := if l.d = true then (stp0 l n i).reverse else stp0 l n i
def trns (N : LN) (n : Int) : List Cell := (stps N.o n 0).flatMap fun i => (stps N.i n i).map fun j => (i, j)
def imax (i j : Int) : Int := if j > i then j else i
def outT (n : Int) (c : Cell) : Bool := decide (imin c.1 c.2 < 0) || decide (n ≤ imax c.1 c.2)
def outN (N : LN) (n : Int) : Bool := (trns N n).any (outT n)
def far (n : Int) : Int := if n < 14 then n else 14 + n % 2
theorem endV_out {a : Nat} {n : Int} (h : a < 12) (hn : 0 ≤ n) : -1 ≤ endV a n 0 ∧ endV a n 0 ≤ n + 1 := by
  have : ∀ b, b < 4 → 0 ≤ bsV b n 0 ∧ bsV b n 0 ≤ n := by
    intro b hb
    rcases b with _ | _ | _ | _ | _ <;> simp only [bsV] <;> omega
  have h2 := this (a / 3) (by omega)
  unfold endV
  omega
theorem endV_inn {a : Nat} {n i : Int} (h : a < 18) (hn : 0 ≤ n) (hi : -1 ≤ i ∧ i ≤ n) : -2 ≤ endV a n i ∧ endV a n i ≤ n + 2 := by
  have : ∀ b, b < 6 → -1 ≤ bsV b n i ∧ bsV b n i ≤ n + 1 := by
    intro b hb
    rcases b with _ | _ | _ | _ | _ | _ | _ <;> simp only [bsV] <;> omega
  have h2 := this (a / 3) (by omega)
  unfold endV
  omega
theorem stps_len {l : Lp} {n i : Int} : (stps l n i).length = (endV l.b n i - endV l.a n i).toNat := by
  unfold stps stp0
  split
  · rw [List.length_reverse, List.length_map, List.length_range]
  · rw [List.length_map, List.length_range]
theorem stps_mem {l : Lp} {n i x : Int} : x ∈ stps l n i ↔ endV l.a n i ≤ x ∧ x < endV l.b n i := by
  have key : x ∈ stp0 l n i ↔ endV l.a n i ≤ x ∧ x < endV l.b n i := by
    unfold stp0
    rw [List.mem_map]
    constructor
    · rintro ⟨k, hk, rfl⟩
      have := List.mem_range.mp hk
      omega
    · rintro ⟨h1, h2⟩
      exact ⟨(x - endV l.a n i).toNat, List.mem_range.mpr (by omega), by omega⟩
  unfold stps
  split
  · rw [List.mem_reverse]
    exact key
  · exact key
def tr1 (N : LN) (n i : Int) : List Cell := (stps N.i n i).map fun j => (i, j)
theorem flat_len {α β : Type} {f : α → List β} {B : Nat} : ∀ {xs : List α}, (∀ x ∈ xs, (f x).length ≤ B) → (xs.flatMap f).length ≤ xs.length * B
  | [], _ => by simp
  | x :: xs, h => by
    have ih := flat_len (xs := xs) fun y hy => h y (List.mem_cons_of_mem _ hy)
    have h1 := h x List.mem_cons_self
    rw [List.flatMap_cons, List.length_append, List.length_cons, Nat.succ_mul]
    omega
section
variable {P : Program} {w : World} {K : PySem.W.Frag} {mg : Str → Option Value} {base : Heap} {A : Ad}
theorem sc_law_steps : FnScope ["_law_loop_here", "_law_size", "_law_i", "_law_low", "_law_high", "_law_found"] ["_law_loop_here", "_law_size", "_law_i"] (defScope (top 114)) := ⟨rfl, rfl, rfl, by decide +kernel, rfl, by decide +kernel, by decide +kernel⟩
theorem fn_law_steps (T : Tx K w mg A) {l : Lp} {n i : Int} (h : l.ok 18) (hr0 : -1000000 ≤ endV l.a n i ∧ endV l.a n i ≤ 1000000 ∧ -1000000 ≤ endV l.b n i ∧ endV l.b n i ≤ 1000000) : FnG P w K mg base "_law_steps" 2 [rLp K l, is (.int n), is (.int i)] [] [] (rLi K ((stps l n i).map rI)) :=
  fng_of T.d_law_steps sc_law_steps rfl (fun _ _ _ _ _ _ us hl => match us, hl with | [_, _, _], _ => rfl) fun f cdv Ar outer s H E hr => by
  -- _law_low, _law_high = (_law_end(_law_loop_here[0], _law_size, _law_i), _law_end(_law_loop_here[1], _law_size,
  refine dss_par 3 4 (da_cons (de_call (fn_law_end T h.1) hr (da_cons (de_ixT (de_var 0) de_int (atI_k 0 rfl)) (da_cons (de_var 1) (da_cons (de_var 2) da_nil)))) (da_cons (de_call (fn_law_end T h.2) hr (da_cons (de_ixT (de_var 0) de_int (atI_k 1 rfl)) (da_cons (de_var 1) (da_cons (de_var 2) da_nil)))) da_nil)) ?_ sc_law_steps.nd
  -- _law_found = list(range(_law_low, _law_high))
  refine dss_set 5 (P := rLi K ((stp0 l n i).map rI)) (de_eq (de_listRg T.n_list T.n_range (de_var 3) (de_var 4) ⟨by omega, by omega, by omega, by omega, by omega⟩) (by unfold stp0 SQ.rgV; rw [List.map_map]; rfl)) ?_ sc_law_steps.nd
  -- return _law_found[::-1] if _law_loop_here[2] else _law_found
  exact dss_ret (de_if (k := l.d) (dt_val (de_ixT (P := is (.bl l.d)) (de_var 0) de_int (atI_k 2 rfl))) (fun z => de_eq (de_rev (de_var 5)) (by unfold stps; rw [if_pos z, List.map_reverse]; rfl)) (fun z => de_eq (de_var 5) (by unfold stps; rw [z]; rfl))) (rt_same)
theorem sc_law_holds : FnScope ["_law_guard", "_law_size", "_law_i", "_law_j", "_law_letters", "_law_one", "_law_other"] ["_law_guard", "_law_size", "_law_i", "_law_j"] (defScope (top 117)) := ⟨rfl, rfl, rfl, by decide +kernel, rfl, by decide +kernel, by decide +kernel⟩
theorem fn_law_holds (T : Tx K w mg A) {g : Gd3} {n i j : Int} (h : g.ok) : FnG P w K mg base "_law_holds" 1 [rGd K g, is (.int n), is (.int i), is (.int j)] [] [] (is (.bl (g.v n i j))) :=
  fng_of T.d_law_holds sc_law_holds rfl (fun _ _ _ _ _ _ us hl => match us, hl with | [_, _, _, _], _ => rfl) fun f cdv Ar outer s H E hr => by
  cases g with
  | none =>
    -- if _law_guard is None: return True
    refine dss_if (k := true) (dt_eq (dt_cmp od_isN (de_var 0) de_non) rfl) (fun _ => ?_) (fun z => nomatch z)
    exact dss_ret de_bl (rt_same)
  | some g =>
    obtain ⟨a, sg, b⟩ := g
    refine dss_ifF (dt_cmp (od_isNO ob_tu) (de_to (P := rGd K (some (a, sg, b))) (de_var 0) fun _ _ h => h) de_non) ?_
    have nma : ∀ c, c < 4 → ([is (.int i), is (.int j), is (.int (n - 1 - i)), is (.int (n - 1 - j))] : List VP)[c]? = some (is (.int (nmV c n i j))) := by
      intro c hc
      rcases c with _ | _ | _ | _ | _ <;> first | rfl | omega
    -- _law_letters = [_law_i, _law_j, _law_size - 1 - _law_i, _law_size - 1 - _law_j]
    refine dss_set 4 (de_lst (da_cons (de_var 2) (da_cons (de_var 3) (da_cons (de_bin od_sub (de_bin od_sub (de_var 1) de_int) (de_var 2)) (da_cons (de_bin od_sub (de_bin od_sub (de_var 1) de_int) (de_var 3)) da_nil))))) ?_ sc_law_holds.nd
    -- _law_one, _law_other = (_law_letters[_law_guard[0]], _law_letters[_law_guard[2]])
    refine dss_par 5 6 (da_cons (de_ixL (i := (a : Nat)) (de_var 4) (de_ixT (P := rNt a) (Ps := [rNt a, rNt sg, rNt b]) (de_var 0) de_int (atI_k 0 rfl)) (atI_k a (nma a h.1))) (da_cons (de_ixL (i := (b : Nat)) (de_var 4) (de_ixT (P := rNt b) (Ps := [rNt a, rNt sg, rNt b]) (de_var 0) de_int (atI_k 2 rfl)) (atI_k b (nma b h.2.2.1))) da_nil)) ?_ sc_law_holds.nd
    -- return [_law_one < _law_other, _law_one <= _law_other, _law_one == _law_other, _law_one != _law_other][_law_gu
    refine dss_ret (de_ixL (i := (sg : Nat)) (de_lst (da_cons (de_cmp od_lt (de_var 5) (de_var 6)) (da_cons (de_cmp od_le (de_var 5) (de_var 6)) (da_cons (de_cmp od_eqI (de_var 5) (de_var 6)) (da_cons (de_cmp od_neI (de_var 5) (de_var 6)) da_nil))))) (de_ixT (P := rNt sg) (Ps := [rNt a, rNt sg, rNt b]) (de_var 0) de_int (atI_k 1 rfl)) (atI_k sg ?_)) (rt_same)
    have hs := h.2.1
    show _ = some (is (.bl (cmpV sg _ _)))
    rcases sg with _ | _ | _ | _ | _ <;> first | rfl | omega
theorem sc_law_turns : FnScope ["_law_nest_here", "_law_size", "_law_found", "_law_i", "_law_j"] ["_law_nest_here", "_law_size"] (defScope (top 115)) := ⟨rfl, rfl, rfl, by decide +kernel, rfl, by decide +kernel, by decide +kernel⟩
theorem fn_law_turns (T : Tx K w mg A) {N : LN} {n : Int} (h : N.ok) (hn : 0 ≤ n ∧ n ≤ 20) : FnG P w K mg base "_law_turns" 3 [rLN K N, is (.int n)] [] [] (rLi K ((trns N n).map rC)) :=
  fng_of T.d_law_turns sc_law_turns rfl (fun _ _ _ _ _ _ us hl => match us, hl with | [_, _], _ => rfl) fun f cdv Ar outer s H E hr => by
  have o1 := endV_out h.1.1 hn.1
  have o2 := endV_out h.1.2 hn.1
  have oo : N.o.ok 18 := ⟨by have := h.1.1; omega, by have := h.1.2; omega⟩
  have hi : ∀ i ∈ stps N.o n 0, -1 ≤ i ∧ i ≤ n := fun i hi => by
    have := stps_mem.mp hi
    omega
  have hil : ∀ i ∈ stps N.o n 0, (-2 ≤ endV N.i.a n i ∧ endV N.i.a n i ≤ n + 2) ∧ (-2 ≤ endV N.i.b n i ∧ endV N.i.b n i ≤ n + 2) := fun i h2 => ⟨endV_inn h.2.1.1 hn.1 (hi i h2), endV_inn h.2.1.2 hn.1 (hi i h2)⟩
  have h1l : ∀ i ∈ stps N.o n 0, (tr1 N n i).length ≤ 30 := fun i h2 => by
    have := hil i h2
    unfold tr1
    rw [List.length_map, stps_len]
    omega
  have hol : (stps N.o n 0).length ≤ 30 := by
    rw [stps_len]
    omega
  -- _law_found = []
  refine dss_set 2 (de_lst da_nil) ?_ sc_law_turns.nd
  -- for _law_i in _law_steps(_law_nest_here[0], _law_size, 0):
  refine dss_forM (xs := stps N.o n 0) (p := rI) (up := fun i G => G.set 3 (some (rI i))) (Iv := fun m G W => (∃ o3, G = [some (rLN K N), some (is (.int n)), some (rLi K ((((stps N.o n 0).take m).flatMap (tr1 N n)).map rC)), o3, none]) ∧ W = []) (di_list (de_call (fn_law_steps T oo (by omega)) hr (da_cons (de_ixT (P := rLp K N.o) (de_var 0) de_int (atI_k 0 rfl)) (da_cons (de_var 1) (da_cons de_int da_nil))))) (fun i hi => (dg_name 3 sc_law_turns.nd)) ⟨⟨_, rfl⟩, rfl⟩ (fun m i G1 W1 hx hI => ?_) (fun G1 W1 hI => ?_)
  · obtain ⟨⟨o3, rfl⟩, rfl⟩ := hI
    have him := List.mem_of_getElem? hx
    have hb := hil i him
    have hl1 := h1l i him
    have hm : m < (stps N.o n 0).length := (List.getElem?_eq_some_iff.mp hx).1
    have hl2 := flat_len (f := tr1 N n) (B := 30) (xs := (stps N.o n 0).take m) fun y hy => h1l y (List.mem_of_mem_take hy)
    have hl3 : ((stps N.o n 0).take m).length * 30 ≤ 30 * 30 := Nat.mul_le_mul_right _ (by rw [List.length_take]; omega)
    -- _law_found = _law_found + [(_law_i, _law_j) for _law_j in _law_steps(_law_nest_here[1], _law_size, _law_i)]
    refine dss_set 2 (P := rLi K ((((stps N.o n 0).take (m + 1)).flatMap (tr1 N n)).map rC)) (de_eq (de_bin (od_cat (Ps := (((stps N.o n 0).take m).flatMap (tr1 N n)).map rC) (Qs := (tr1 N n i).map rC) (by rw [List.length_map, List.length_map]; omega)) (de_var 2) (de_eq (de_lcA (own := [("_law_j", 4)]) (js := [4]) (xs := stps N.i n i) (p := rI) (r := fun j => rC (i, j)) (up := fun j G => G.set 4 (some (rI j))) sc_law_turns.nd (di_list (de_call (fn_law_steps T h.2.1 (by omega)) hr (da_cons (de_ixT (P := rLp K N.i) (de_var 0) de_int (atI_k 1 rfl)) (da_cons (de_var 1) (da_cons (de_var 3) da_nil))))) (blk_of (by kernel_rfl)) (by simp) (by rw [stps_len]; omega) (fun s H C cl fp x hx => (dg_name 4 sc_law_turns.nd)) (fun s H C cl fp j hj => (de_tupV [.int i, .int j] (da_cons (de_var 3) (da_cons (de_var 4) da_nil))))) (by unfold tr1; rw [List.map_map]; rfl))) ?_) (dss_nil ⟨⟨_, rfl⟩, rfl⟩) sc_law_turns.nd
    rw [List.take_succ, hx, List.flatMap_append, List.map_append]
    show _ = rLi K (_ ++ (([i] : List Int).flatMap (tr1 N n)).map rC)
    rw [List.flatMap_cons, List.flatMap_nil, List.append_nil]
    rfl
  · obtain ⟨⟨o3, rfl⟩, rfl⟩ := hI
    -- return _law_found
    exact dss_ret (de_eq (de_var 2) (by rw [List.take_length]; rfl)) (rt_same)
theorem sc_law_out : FnScope ["_law_plan_here", "_law_size", "_law_nest_here", "_law_i", "_law_j"] ["_law_plan_here", "_law_size"] (defScope (top 116)) := ⟨rfl, rfl, rfl, by decide +kernel, rfl, by decide +kernel, by decide +kernel⟩
theorem fn_law_out (T : Tx K w mg A) {N : LN} {n : Int} (h : N.ok) (hn : 0 ≤ n ∧ n ≤ 20) : FnG P w K mg base "_law_out" 4 [rLi K [rLN K N], is (.int n)] [] [] (is (.bl (outN N n))) :=
  fng_of T.d_law_out sc_law_out rfl (fun _ _ _ _ _ _ us hl => match us, hl with | [_, _], _ => rfl) fun f cdv Ar outer s H E hr => by
  -- for _law_nest_here in _law_plan_here:
  refine dss_forM (xs := [()]) (p := fun _ => rLN K N) (up := fun _ G => G.set 2 (some (rLN K N))) (Iv := fun m G W => (∃ o2 o3 o4, G = [some (rLi K [rLN K N]), some (is (.int n)), o2, o3, o4]) ∧ W = [] ∧ (m = 1 → outN N n = false)) (di_list (de_var 0)) (fun _ _ => (dg_name 2 sc_law_out.nd)) ⟨⟨_, _, _, rfl⟩, rfl, fun z => nomatch z⟩ (fun m x G1 W1 hx hI => ?_) (fun G1 W1 hI => ?_)
  · obtain ⟨⟨o2, o3, o4, rfl⟩, rfl, _⟩ := hI
    have hm : m = 0 := by
      have := (List.getElem?_eq_some_iff.mp hx).1
      simpa using this
    subst hm
    -- for _law_i, _law_j in _law_turns(_law_nest_here, _law_size):
    refine dss_forM (xs := trns N n) (p := rC) (up := fun c G => (G.set 3 (some (is (.int c.1)))).set 4 (some (is (.int c.2)))) (Iv := fun m G W => (∃ o3 o4, G = [some (rLi K [rLN K N]), some (is (.int n)), some (rLN K N), o3, o4]) ∧ W = [] ∧ ((trns N n).take m).any (outT n) = false) (di_list (de_call (fn_law_turns T h hn) hr (da_cons (de_var 2) (da_cons (de_var 1) da_nil)))) (fun c hc => (dg_tupV (dgs_cons (dg_name 3 sc_law_out.nd) (dgs_cons (dg_name 4 sc_law_out.nd) dgs_nil)))) ⟨⟨_, _, rfl⟩, rfl, rfl⟩ (fun m c G1 W1 hc hI => ?_) (fun G1 W1 hI => ?_)
    · obtain ⟨⟨o3, o4, rfl⟩, rfl, hI⟩ := hI
      -- if min(_law_i, _law_j) < 0 or max(_law_i, _law_j) >= _law_size:
      refine dss_when (k := outT n c) (dt_of (dw_or (dt_cmp od_lt (de_bi (ca_min2) T.n_min boot_min (da_cons (de_var 3) (da_cons (de_var 4) da_nil))) de_int) fun _ => (dw_or1 (dt_cmp od_ge (de_bi (ca_max2) T.n_max boot_max (da_cons (de_var 3) (da_cons (de_var 4) da_nil))) (de_var 1))))) (fun hk => ?_) (fun hk => ?_)
      · -- return True
        exact dss_ret (de_eq de_bl (by have : outN N n = true := any_at hc hk; rw [this])) (rt_same)
      · exact dss_nil ⟨⟨_, _, rfl⟩, rfl, any_snoc hc hI hk⟩
    · obtain ⟨⟨o3, o4, rfl⟩, rfl, hI⟩ := hI
      rw [List.take_length] at hI
      exact dss_nil ⟨⟨_, _, _, rfl⟩, rfl, fun _ => hI⟩
  · obtain ⟨⟨o2, o3, o4, rfl⟩, rfl, hI⟩ := hI
    -- return False
    exact dss_ret (de_eq de_bl (by rw [hI rfl])) (rt_same)
theorem sc_law_outfar : FnScope ["_law_plan_here", "_law_size"] ["_law_plan_here", "_law_size"] (defScope (top 121)) := ⟨rfl, rfl, rfl, by decide +kernel, rfl, by decide +kernel, by decide +kernel⟩
theorem fn_law_outfar (T : Tx K w mg A) {N : LN} {n : Int} (h : N.ok) (hn : 0 ≤ n) : FnG P w K mg base "_law_outfar" 5 [rLi K [rLN K N], is (.int n)] [] [] (is (.bl (outN N (far n)))) :=
  fng_of T.d_law_outfar sc_law_outfar rfl (fun _ _ _ _ _ _ us hl => match us, hl with | [_, _], _ => rfl) fun f cdv Ar outer s H E hr => by
  -- return _law_out(_law_plan_here, _law_size if _law_size < 14 else 14 + int(_law_size) % 2)
  refine dss_ret (de_call (fn_law_out T (n := far n) h (by unfold far; split <;> omega)) hr (da_cons (de_var 0) (da_cons (de_if (k := decide (n < 14)) (dt_cmp od_lt (de_var 1) de_int) (fun z => de_eq (de_var 1) (by rw [far, if_pos (of_decide_eq_true z)])) (fun z => (de_eq (de_bin od_add de_int (de_bin (od_mod (i := n) (by decide)) (de_ty ca_int T.n_int boot_int (da_cons (de_var 1) da_nil)) de_int)) (by rw [far, if_neg (of_decide_eq_false z)])))) da_nil))) (rt_same)
end
end
end SQ
end
section
set_option maxHeartbeats 400000
namespace SQ
open PySem PySem.Spec PyProof.Rows L2 StX ClX
noncomputable section
theorem set_swap {α : Type} {vs : List α} {p q : Nat} {a b : α} (h : p = q → a = b) : (vs.set p a).set q b = (vs.set q b).set p a := by
  by_cases e : p = q
  · rw [h e, e]
  · exact List.set_comm _ _ e
section
variable {P : Program} {w : World} {K : PySem.W.Frag} {mg : Str → Option Value} {base : Heap} {A : Ad}
theorem sc_law_do : FnScope ["_law_deed_here", "_law_size", "_law_i", "_law_j", "_law_held", "_law_bits", "_law_word", "_law_spots_here", "_law_guard", "_law_at", "_law_spot_here", "_law_old", "_law_cell", "_law_k"] ["_law_deed_here", "_law_size", "_law_i", "_law_j", "_law_held", "_law_bits"] (defScope (top 118)) := ⟨rfl, rfl, rfl, by decide +kernel, rfl, by decide +kernel, by decide +kernel⟩
theorem fn_law_do (T : Tx K w mg A) {D : LD} {n i j : Int} {cs : List Cell} {vs : List Int} {q : Addr} (hD : D.ok) (nd : cs.Nodup) (hl : cs.length = vs.length) (hz : cs.length ≤ 8) (him : ∀ s, s < 8 → im n i j s ∈ cs) :
    FnG P w K mg base "_law_do" 2 [rLD K D, is (.int n), is (.int i), is (.int j), is (.ref q), is (.bl false)] [(q, oDi (dz cs vs))] [(q, oDi (dz cs (ddo imin imax 0 D cs n i j vs)))] (is .non) :=
  fng_of T.d_law_do sc_law_do rfl (fun _ _ _ _ _ _ us hl => match us, hl with | [_, _, _, _, _, _], _ => rfl) fun f cdv Ar outer s H E hr => by
  have hz2 : (dz cs vs).length ≤ 100000 := Nat.le_trans dz_len (by omega)
  have hzz : ∀ vs' : List Int, (dz cs vs').length ≤ 100000 := fun vs' => Nat.le_trans dz_len (by omega)
  obtain ⟨l2, l8⟩ := hD.le2
  -- _law_word, _law_spots_here, _law_guard = _law_deed_here
  refine dss_asg (P := rTu K [rS (wdT D.wd), rLi K (D.sp.map rNt), rGd K D.gd]) (de_var 0) (dg_tup (dgs_cons (dg_name 6 sc_law_do.nd) (dgs_cons (dg_name 7 sc_law_do.nd) (dgs_cons (dg_name 8 sc_law_do.nd) dgs_nil)))) ?_
  -- if not _law_holds(_law_guard, _law_size, _law_i, _law_j):
  refine dss_when (k := !(D.gd.v n i j)) (dt_not (dt_val (de_call (fn_law_holds T hD.g) hr (da_cons (de_var 8) (da_cons (de_var 1) (da_cons (de_var 2) (da_cons (de_var 3) da_nil))))))) (fun hc => ?_) (fun hc => ?_)
  · have e : ddo imin imax 0 D cs n i j vs = vs := if_neg (by simpa using hc)
    rw [e]
    exact dss_retN rt_same
  have e : ddo imin imax 0 D cs n i j vs = stp imin imax 0 D.wd (D.sp.map (posn cs n i j)) vs := if_pos (by simpa using hc)
  rw [e]
  clear e hc
  -- _law_at = [_law_cells(_law_size, _law_i, _law_j)[_law_spot_here] for _law_spot_here in _law_spots_here]
  refine dss_setLcA 9 (own := [("_law_spot_here", 10)]) (js := [10]) (xs := D.sp) (p := rNt) (r := fun s => rC (im n i j s)) (up := fun s G => G.set 10 (some (rNt s))) sc_law_do.nd (di_list (de_var 7)) (blk_of (by kernel_rfl)) (by simp) (Nat.le_trans l8 (by decide)) (fun s H C cl fp x hx => (dg_name 10 sc_law_do.nd)) (fun s H C cl fp x hx => (de_ixL (i := (x : Nat)) (de_call (fn_law_cells T) hr (da_cons (de_var 1) (da_cons (de_var 2) (da_cons (de_var 3) da_nil)))) (de_var 10) (atI_k x ?_))) ?_
  · have hx8 := hD.s8 x hx
    have hl : x < (img n i j).length := hx8
    rw [List.getElem?_map, List.getElem?_eq_getElem hl]
    show _ = some (rC ((img n i j).getD x (0, 0)))
    rw [List.getD_eq_getElem?_getD, List.getElem?_eq_getElem hl]
    rfl
  -- _law_old = [_law_held[_law_cell] for _law_cell in _law_at]
  refine dss_setLcA 11 (own := [("_law_cell", 12)]) (js := [12]) (xs := D.sp) (p := fun s => rC (im n i j s)) (r := fun s => is (.int (vs.getD (posn cs n i j s) 0))) (up := fun s G => G.set 12 (some (rC (im n i j s)))) sc_law_do.nd (di_list (de_var 9)) (blk_of (by kernel_rfl)) (by simp) (Nat.le_trans l8 (by decide)) (fun s H C cl fp x hx => (dg_name 12 sc_law_do.nd)) (fun s H C cl fp x hx => (de_dgetO (ky := ck (im n i j x)) hr List.mem_cons_self (de_var 4) (de_var 12) (lk_dz nd hl (posn_at (him x (hD.s8 x hx)))))) ?_
  have cat : ∀ {m : Nat} {s : Nat}, D.sp[m]? = some s → (D.sp.map fun s => rC (im n i j s))[m]? = some (rC (im n i j s)) := fun h => by rw [List.getElem?_map, h]; rfl
  have eat : ∀ {m : Nat} {s : Nat}, D.sp[m]? = some s → (D.sp.map fun s => is (.int (vs.getD (posn cs n i j s) 0)))[m]? = some (is (.int (vs.getD (posn cs n i j s) 0))) := fun h => by rw [List.getElem?_map, h]; rfl
  have at_ : ∀ {m : Nat}, m < D.sp.length → D.sp[m]? = some D.sp[m]! := fun {m} h => by simp [h]
  have pt : ∀ {vs' : List Int} {m : Nat} {x : Int}, cs.length = vs'.length → m < D.sp.length → putP (dz cs vs') (ck (im n i j D.sp[m]!)) (is (.int x)) = dz cs (vs'.set (posn cs n i j D.sp[m]!) x) := fun {vs' m x} h1 h2 => put_dz nd h1 (posn_at (him _ (hD.s8 _ (by simp [h2]))))
  have pg : ∀ {m : Nat}, m < D.sp.length → (D.sp.map (posn cs n i j)).getD m 0 = posn cs n i j D.sp[m]! := fun {m} h => by simp [h]
  have eg : ∀ {m : Nat}, m < D.sp.length → (ents 0 (D.sp.map (posn cs n i j)) vs).getD m 0 = vs.getD (posn cs n i j D.sp[m]!) 0 := fun {m} h => by simp [ents, h]
  have wq : ∀ {X : Cx} {W : Ow} {t : Str} {c : Nat}, t = wdT c → c < 4 → OpD X W (compareOp .Eq) (rS (wdT D.wd)) (is (.str t)) (is (.bl (decide (D.wd = c)))) := fun {X W t c} e hc => by
    subst e
    rw [← wd_eq _ hD.w4 c hc]
    exact od_eqS
  have e0 : ("swap" : Str) = wdT 0 := by decide +kernel
  have e1 : ("copy" : Str) = wdT 1 := by decide +kernel
  have e2 : ("order" : Str) = wdT 2 := by decide +kernel
  have e3 : ("turn" : Str) = wdT 3 := by decide +kernel
  have w4 := hD.w4
  -- if _law_word == 'copy':
  refine dss_when (dt_cmp (wq e1 (by decide)) (de_var 6) de_str) (fun hc => ?_) (fun hc => ?_)
  · have hc := of_decide_eq_true hc
    -- _law_held[_law_at[1]] = _law_old[0]
    refine dss_dputO (ky := ck (im n i j D.sp[1]!)) hr (de_var 4) (de_ixL (de_var 9) de_int (atI_k 1 (cat (at_ (by omega))))) (de_ixL (de_var 11) de_int (atI_k 0 (eat (at_ (by omega))))) hz2 (dss_nil ?_)
    have e : stp imin imax 0 D.wd (D.sp.map (posn cs n i j)) vs = vs.set (posn cs n i j D.sp[1]!) (vs.getD (posn cs n i j D.sp[0]!) 0) := by
      unfold stp
      rw [if_pos hc, pg (by omega), eg (by omega)]
    rw [e, pt hl (by omega)]
    refine dss_ifF (dt_eq (dt_cmp (wq e0 (by decide)) (de_var 6) de_str) (decide_eq_false (by omega))) ?_
    refine dss_ifF (dt_eq (dt_cmp (wq e2 (by decide)) (de_var 6) de_str) (decide_eq_false (by omega))) ?_
    refine dss_ifF (dt_eq (dt_cmp (wq e3 (by decide)) (de_var 6) de_str) (decide_eq_false (by omega))) ?_
    exact dss_nil nx_none
  have hc1 := of_decide_eq_false hc
  clear hc
  -- if _law_word == 'swap':
  refine dss_when (dt_cmp (wq e0 (by decide)) (de_var 6) de_str) (fun hc => ?_) (fun hc => ?_)
  · have hc := of_decide_eq_true hc
    have hsp := hD.l2 (by omega)
    -- _law_held[_law_at[0]] = _law_old[1]
    refine dss_dputO (ky := ck (im n i j D.sp[0]!)) hr (de_var 4) (de_ixL (de_var 9) de_int (atI_k 0 (cat (at_ (by omega))))) (de_ixL (de_var 11) de_int (atI_k 1 (eat (at_ (by omega))))) hz2 ?_
    rw [pt hl (by omega)]
    -- _law_held[_law_at[1]] = _law_old[0]
    refine dss_dputO (ky := ck (im n i j D.sp[1]!)) hr (de_var 4) (de_ixL (de_var 9) de_int (atI_k 1 (cat (at_ (by omega))))) (de_ixL (de_var 11) de_int (atI_k 0 (eat (at_ (by omega))))) (hzz _) (dss_nil ?_)
    rw [pt (by rw [List.length_set]; exact hl) (by omega)]
    have e : stp imin imax 0 D.wd (D.sp.map (posn cs n i j)) vs = (vs.set (posn cs n i j D.sp[0]!) (vs.getD (posn cs n i j D.sp[1]!) 0)).set (posn cs n i j D.sp[1]!) (vs.getD (posn cs n i j D.sp[0]!) 0) := by
      unfold stp
      rw [if_neg (by omega), if_neg (by omega)]
      obtain ⟨s0, s1, hs⟩ : ∃ s0 s1, D.sp = [s0, s1] := by
        match hd : D.sp, hsp with
        | [s0, s1], _ => exact ⟨s0, s1, rfl⟩
      rw [hs]
      show (vs.set (posn cs n i j s1) (vs.getD (posn cs n i j s0) 0)).set (posn cs n i j s0) (vs.getD (posn cs n i j s1) 0) = (vs.set (posn cs n i j s0) (vs.getD (posn cs n i j s1) 0)).set (posn cs n i j s1) (vs.getD (posn cs n i j s0) 0)
      exact set_swap fun e => by rw [e]
    rw [e]
    refine dss_ifF (dt_eq (dt_cmp (wq e2 (by decide)) (de_var 6) de_str) (decide_eq_false (by omega))) ?_
    refine dss_ifF (dt_eq (dt_cmp (wq e3 (by decide)) (de_var 6) de_str) (decide_eq_false (by omega))) ?_
    exact dss_nil nx_none
  have hc0 := of_decide_eq_false hc
  clear hc
  -- if _law_word == 'order':
  refine dss_when (dt_cmp (wq e2 (by decide)) (de_var 6) de_str) (fun hc => ?_) (fun hc => ?_)
  · have hc := of_decide_eq_true hc
    refine dss_dputO (ky := ck (im n i j D.sp[0]!)) (P := is (.int (imin (vs.getD (posn cs n i j D.sp[0]!) 0) (vs.getD (posn cs n i j D.sp[1]!) 0)))) hr (de_var 4) (de_ixL (de_var 9) de_int (atI_k 0 (cat (at_ (by omega))))) (de_if (k := false) (dt_val (de_var 5)) (fun z => nomatch z) (fun _ => (de_bi (ca_min2) T.n_min boot_min (da_cons (de_ixL (de_var 11) de_int (atI_k 0 (eat (at_ (by omega))))) (da_cons (de_ixL (de_var 11) de_int (atI_k 1 (eat (at_ (by omega))))) da_nil))))) hz2 ?_
    rw [pt hl (by omega)]
    refine dss_dputO (ky := ck (im n i j D.sp[1]!)) (P := is (.int (imax (vs.getD (posn cs n i j D.sp[0]!) 0) (vs.getD (posn cs n i j D.sp[1]!) 0)))) hr (de_var 4) (de_ixL (de_var 9) de_int (atI_k 1 (cat (at_ (by omega))))) (de_if (k := false) (dt_val (de_var 5)) (fun z => nomatch z) (fun _ => (de_bi (ca_max2) T.n_max boot_max (da_cons (de_ixL (de_var 11) de_int (atI_k 0 (eat (at_ (by omega))))) (da_cons (de_ixL (de_var 11) de_int (atI_k 1 (eat (at_ (by omega))))) da_nil))))) (hzz _) (dss_nil ?_)
    rw [pt (by rw [List.length_set]; exact hl) (by omega)]
    have e : stp imin imax 0 D.wd (D.sp.map (posn cs n i j)) vs = (vs.set (posn cs n i j D.sp[0]!) (imin (vs.getD (posn cs n i j D.sp[0]!) 0) (vs.getD (posn cs n i j D.sp[1]!) 0))).set (posn cs n i j D.sp[1]!) (imax (vs.getD (posn cs n i j D.sp[0]!) 0) (vs.getD (posn cs n i j D.sp[1]!) 0)) := by
      unfold stp
      rw [if_neg (by omega), if_pos hc, pg (by omega), pg (by omega), eg (by omega), eg (by omega)]
    rw [e]
    refine dss_ifF (dt_eq (dt_cmp (wq e3 (by decide)) (de_var 6) de_str) (decide_eq_false (by omega))) ?_
    exact dss_nil nx_none
  have hc2 := of_decide_eq_false hc
  clear hc
  -- if _law_word == 'turn':
  refine dss_if (k := true) (dt_eq (dt_cmp (wq e3 (by decide)) (de_var 6) de_str) (decide_eq_true (by omega))) (fun _ => ?_) (fun z => nomatch z)
  · skip
    -- for k in range(1, len(cells)): content[cells[k]] = entries[k - 1]
    have hst : stp imin imax 0 D.wd (D.sp.map (posn cs n i j)) vs = shf 0 (D.sp.map (posn cs n i j)) (ents 0 (D.sp.map (posn cs n i j)) vs) vs := by
      unfold stp
      rw [if_neg (by omega), if_neg (by omega)]
    rw [hst]
    generalize hqs : ((D.sp.map (posn cs n i j)).drop 1).zip (ents 0 (D.sp.map (posn cs n i j)) vs) = qs
    have qlen : qs.length = D.sp.length - 1 := by
      rw [← hqs]
      simp [ents]
    have qat : ∀ m, m + 1 < D.sp.length → qs[m]? = some (posn cs n i j D.sp[m + 1]!, vs.getD (posn cs n i j D.sp[m]!) 0) := fun m h => by
      rw [← hqs, List.getElem?_zip_eq_some]
      have h2 : m < D.sp.length := by omega
      constructor
      · rw [List.getElem?_drop, List.getElem?_map, Nat.add_comm 1 m]
        simp [h]
      · unfold ents
        rw [List.getElem?_map, List.getElem?_map]
        simp [h2]
    have slen : ∀ m, (sets (qs.take m) vs).length = vs.length := fun m => sets_len _ _
    refine dss_for (Iv := fun m G W => (∃ o, G = [some (rLD K D), some (is (.int n)), some (is (.int i)), some (is (.int j)), some (is (.ref q)), some (is (.bl false)), some (rS (wdT D.wd)), some (rLi K (D.sp.map rNt)), some (rGd K D.gd), some (rLi K (D.sp.map fun s => rC (im n i j s))), none, some (rLi K (D.sp.map fun s => is (.int (vs.getD (posn cs n i j s) 0)))), none, o]) ∧ W = [(q, oDi (dz cs (sets (qs.take m) vs)))])
      (di_range2 T.n_range (da_cons de_int (da_cons (de_bi ca_lenL T.n_len boot_len (da_cons (de_var 9) da_nil)) da_nil)) ?_) (fun P hP => (dg_name 13 sc_law_do.nd)) ?_ (fun m P G1 W1 hP hI => ?_) (fun G1 W1 hI => ?_)
    · rw [List.length_map]
      omega
    · exact ⟨⟨none, rfl⟩, rfl⟩
    · obtain ⟨⟨o, rfl⟩, rfl⟩ := hI
      obtain ⟨rfl, hm⟩ := rg_at hP
      rw [List.length_map] at hm
      have hm1 : m + 1 < D.sp.length := by omega
      refine dss_dputO (ky := ck (im n i j D.sp[m + 1]!)) hr (de_var 4) (de_ixL (de_var 9) (de_var 13) (atI_k (m + 1) (cat (at_ hm1)) (by omega))) (de_ixL (de_var 11) (de_bin od_sub (de_var 13) de_int) (atI_k m (eat (at_ (by omega))) (by omega))) (hzz _) (dss_nil ?_)
      rw [pt (by rw [slen]; exact hl) hm1]
      refine ⟨⟨_, rfl⟩, ?_⟩
      have e : sets (qs.take (m + 1)) vs = (sets (qs.take m) vs).set (posn cs n i j D.sp[m + 1]!) (vs.getD (posn cs n i j D.sp[m]!) 0) := by
        unfold sets
        rw [List.take_succ, qat m hm1, List.foldl_append]
        rfl
      rw [e]
    · obtain ⟨⟨o, rfl⟩, rfl⟩ := hI
      have e : (rgV 1 ((((D.sp.map fun s => rC (im n i j s)).length : Int) - 1).toNat)).length = D.sp.length - 1 := by
        rw [rg_len, List.length_map]
        omega
      -- content[cells[0]] = entries[-1]
      refine dss_dputO (ky := ck (im n i j D.sp[0]!)) hr (de_var 4) (de_ixL (de_var 9) de_int (atI_k 0 (cat (at_ (by omega))))) (de_ixL (de_var 11) (de_neg de_int) (atI_neg (D.sp.length - 1) (eat (at_ (by omega))) (by rw [List.length_map]; omega) (by decide))) (hzz _) (dss_nil (dss_nil ?_))
      rw [pt (by rw [slen]; exact hl) (by omega), e, ← qlen, List.take_length]
      have e2 : shf 0 (D.sp.map (posn cs n i j)) (ents 0 (D.sp.map (posn cs n i j)) vs) vs = (sets qs vs).set (posn cs n i j D.sp[0]!) (vs.getD (posn cs n i j D.sp[D.sp.length - 1]!) 0) := by
        unfold shf
        rw [hqs]
        have h0 : (D.sp.map (posn cs n i j)).headD 0 = posn cs n i j D.sp[0]! := by
          have := pg (m := 0) (by omega)
          rw [← this]
          cases D.sp with
          | nil => rfl
          | cons a b => rfl
        have h1 : (ents 0 (D.sp.map (posn cs n i j)) vs).getLastD 0 = vs.getD (posn cs n i j D.sp[D.sp.length - 1]!) 0 := by
          rw [← eg (m := D.sp.length - 1) (by omega)]
          have lz : (ents 0 (D.sp.map (posn cs n i j)) vs).length = D.sp.length := by simp [ents]
          rw [List.getLastD_eq_getLast?, List.getLast?_eq_getElem?, lz, List.getD_eq_getElem?_getD]
        rw [h0, h1]
      rw [e2, qlen]
      exact nx_none

end
end
end SQ
end
section
set_option maxHeartbeats 400000
namespace SQ
open PySem PySem.Spec PyProof.Rows L2 StX ClX
noncomputable section
section
variable {X : Cx} {W : Ow} {k : Nat}
theorem od_notInDO {q : Addr} {Ps : List VP} {P1 : VP} {d : PyData} {ds : List PyData} (hq : (q, oLi Ps) ∈ W) (hr : Room k X.A) (h1 : Dt X.K P1 d) (h2 : Paired (Dt X.K) Ps ds) (s1 : SeqAt.shaped d = true) (s2 : SeqAt.shaped (.list ds) = true) : OpD X W (compareOp .NotIn) P1 (is (.ref q)) (is (.bl (!ds.any fun z => PyData.eqv z d))) :=
  ⟨_, op_notInD (by have := hr.un; omega), fun c G s H v1 v2 Q S b1 b2 kq => by
    rw [b2.eq]
    obtain ⟨us, hu, r⟩ := mem_of_owned S hq
    exact ⟨d, ds, Dp.mono vis_sub (h1 _ _ b1), .lst (SqL.of hu) (DpAll.mono vis_sub (dt_all h2 r)), s1, s2, kq _ H (Same.refl H) bx_is⟩⟩
end
theorem dataLe_cD : PySem.W.dataLe false cD = leC := PySem.W.dataLe_ii (fun c : Cell => c.1) (fun c => c.2)
theorem uniA_snoc {acc : List Cell} {cs : List Cell} {m : Nat} {c : Cell} (h : cs[m]? = some c) : uniA acc (cs.take (m + 1)) = if c ∈ uniA acc (cs.take m) then uniA acc (cs.take m) else uniA acc (cs.take m) ++ [c] := by
  unfold uniA
  rw [List.take_succ, h, List.foldl_append]
  rfl
theorem uniA_le {cs : List Cell} : (uniA [] cs).length ≤ cs.length := by
  have := (uniA_sub (cs := cs) (List.Sublist.refl [])).length_le
  simpa using this
theorem by_pos {cs : List Cell} {vs : List Int} (nd : cs.Nodup) (lv : vs.length = cs.length) : cs.map (fun x => rI (vs.getD (cs.idxOf x) 0)) = vs.map rI := by
  apply List.ext_getElem?
  intro i
  rw [List.getElem?_map, List.getElem?_map]
  by_cases hi : i < cs.length
  · have hi2 : i < vs.length := by omega
    rw [List.getElem?_eq_getElem hi, List.getElem?_eq_getElem hi2, Option.map_some, Option.map_some, nd.idxOf_getElem i hi, List.getD_eq_getElem?_getD, List.getElem?_eq_getElem hi2]
    rfl
  · rw [List.getElem?_eq_none (by omega), List.getElem?_eq_none (by omega)]
    rfl
section
variable {P : Program} {w : World} {K : PySem.W.Frag} {mg : Str → Option Value} {base : Heap} {A : Ad}
theorem sc_law_orbit : FnScope ["_law_size", "_law_row", "_law_column", "_law_found", "_law_cell"] ["_law_size", "_law_row", "_law_column"] (defScope (top 119)) := ⟨rfl, rfl, rfl, by decide +kernel, rfl, by decide +kernel, by decide +kernel⟩
theorem fn_law_orbit (T : Tx K w mg A) {n r c : Int} : FnG P w K mg base "_law_orbit" 2 [is (.int n), is (.int r), is (.int c)] [] [] (rLi K ((orb n r c).map rC)) :=
  fng_of T.d_law_orbit sc_law_orbit rfl (fun _ _ _ _ _ _ us hl => match us, hl with | [_, _, _], _ => rfl) fun f cdv Ar outer s H E hr => by
  have l8 : ((img n r c).mergeSort leC).length = 8 := (List.mergeSort_perm _ _).length_eq
  -- _law_found = []
  refine dss_setN 3 (dn_lst da_nil) (fun q => ?_) sc_law_orbit.nd
  -- for _law_cell in sorted(_law_cells(_law_size, _law_row, _law_column)):
  refine dss_forM (xs := (img n r c).mergeSort leC) (p := rC) (up := fun x G => G.set 4 (some (rC x))) (Iv := fun m G W => (∃ o4, G = [some (is (.int n)), some (is (.int r)), some (is (.int c)), some (is (.ref q)), o4]) ∧ W = [(q, oLi ((uniA [] (((img n r c).mergeSort leC).take m)).map rC))]) (di_eq (di_list (de_bi (ca_sortD (img n r c) rC cD hr (fun b _ => dt_rC) (PySem.W.AllAlike.of alike_cD) (PySem.W.Sortable.tuples fun b => ⟨_, _, rfl⟩) (fun b _ => Nat.le_trans (cD_dep b) (by decide))) T.n_sorted boot_sorted (da_cons (de_call (fn_law_cells T) hr (da_cons (de_var 0) (da_cons (de_var 1) (da_cons (de_var 2) da_nil)))) da_nil))) (by rw [dataLe_cD])) (fun x hx => (dg_name 4 sc_law_orbit.nd)) ⟨⟨_, rfl⟩, rfl⟩ (fun m x G1 W1 hx hI => ?_) (fun G1 W1 hI => ?_)
  · obtain ⟨⟨o4, rfl⟩, rfl⟩ := hI
    have sn := uniA_snoc (acc := []) hx
    have hlen := uniA_le (cs := ((img n r c).mergeSort leC).take m)
    have hlt := List.length_take_le' m ((img n r c).mergeSort leC)
    generalize uniA [] (((img n r c).mergeSort leC).take m) = acc at *
    -- if _law_cell not in _law_found:
    refine dss_when (k := !decide (x ∈ acc)) (dt_eq (dt_cmp (od_notInDO List.mem_cons_self hr (dt_rC (c := x)) (dt_cells (cs := acc)) (sh_cD x) (sh_csL acc)) (de_var 4) (de_var 3)) (by rw [any_cD])) (fun hc => ?_) (fun hc => ?_)
    · have hc : ¬ x ∈ acc := by simpa using hc
      -- _law_found.append(_law_cell)
      refine dss_expr (P := is .non) (dx_append1 (P := rC x) (de_var 3) (de_var 4) (by rw [List.length_map]; omega)) (dss_nil (dss_nil ⟨⟨_, rfl⟩, ?_⟩))
      rw [sn, if_neg hc, List.map_append]
      rfl
    · have hc : x ∈ acc := by simpa using hc
      refine dss_nil ⟨⟨_, rfl⟩, ?_⟩
      rw [sn, if_pos hc]
  · obtain ⟨⟨o4, rfl⟩, rfl⟩ := hI
    rw [List.take_length]
    refine dss_freeL 3 ?_
    -- return _law_found
    exact dss_ret (de_var 3) (rt_same)
theorem sc_law_near : FnScope ["_law_plan_here", "_law_size", "_law_cells_here", "_law_held", "_law_bits", "_law_outer", "_law_inner", "_law_deeds", "_law_some", "_law_i", "_law_j", "_law_first", "_law_then", "_law_deed_here", "_law_cell"] ["_law_plan_here", "_law_size", "_law_cells_here", "_law_held", "_law_bits"] (defScope (top 120)) := ⟨rfl, rfl, rfl, by decide +kernel, rfl, by decide +kernel, by decide +kernel⟩
theorem fn_law_near (T : Tx K w mg A) {N : LN} {n : Int} {cs : List Cell} {vs : List Int} {q : Addr} (h : N.ok) (nd : cs.Nodup) (hl : cs.length = vs.length) (hz : cs.length ≤ 8) (him : ∀ x ∈ cs, ∀ s, s < 8 → im n x.1 x.2 s ∈ cs) :
    FnG P w K mg base "_law_near" 3 [rLi K [rLN K N], is (.int n), rLi K (cs.map rC), is (.ref q), is (.bl false)] [(q, oDi (dz cs vs))] [(q, oDi (dz cs (efC imin imax 0 cs n N.ds (rds N n cs) vs)))] (rLi K ((efC imin imax 0 cs n N.ds (rds N n cs) vs).map rI)) :=
  fng_of T.d_law_near sc_law_near rfl (fun _ _ _ _ _ _ us hl => match us, hl with | [_, _, _, _, _], _ => rfl) fun f cdv Ar outer s H E hr => by
  have oo : N.o.ok 18 := ⟨by have := h.1.1; omega, by have := h.1.2; omega⟩
  let fl : Cell → Bool := fun c => inL N.o n 0 c.1 && inL N.i n c.1 c.2
  -- for _law_outer, _law_inner, _law_deeds in _law_plan_here:
  refine dss_forM (xs := [()]) (p := fun _ => rLN K N) (up := fun _ G => ((G.set 5 (some (rLp K N.o))).set 6 (some (rLp K N.i))).set 7 (some (rLi K (N.ds.map (rLD K))))) (Iv := fun m G W => (∃ o5 o6 o7 o8 o9 o10 o11 o12 o13, G = [some (rLi K [rLN K N]), some (is (.int n)), some (rLi K (cs.map rC)), some (is (.ref q)), some (is (.bl false)), o5, o6, o7, o8, o9, o10, o11, o12, o13, none]) ∧ W = [(q, oDi (dz cs (if m = 0 then vs else efC imin imax 0 cs n N.ds (rds N n cs) vs)))]) (di_list (de_var 0)) (fun _ _ => (dg_tup (dgs_cons (dg_name 5 sc_law_near.nd) (dgs_cons (dg_name 6 sc_law_near.nd) (dgs_cons (dg_name 7 sc_law_near.nd) dgs_nil))))) ⟨⟨_, _, _, _, _, _, _, _, _, rfl⟩, rfl⟩ (fun m x G1 W1 hx hI => ?_) (fun G1 W1 hI => ?_)
  · obtain ⟨⟨o5, o6, o7, o8, o9, o10, o11, o12, o13, rfl⟩, rfl⟩ := hI
    have hm : m = 0 := by
      have := (List.getElem?_eq_some_iff.mp hx).1
      simpa using this
    subst hm
    rw [if_pos rfl]
    -- _law_some = []
    refine dss_setN 8 (dn_lst da_nil) (fun r => ?_) sc_law_near.nd
    -- for _law_i, _law_j in _law_cells_here:
    refine dss_forM (xs := cs) (p := rC) (up := fun c G => (G.set 9 (some (is (.int c.1)))).set 10 (some (is (.int c.2)))) (Iv := fun m G W => (∃ o9 o10, G = [some (rLi K [rLN K N]), some (is (.int n)), some (rLi K (cs.map rC)), some (is (.ref q)), some (is (.bl false)), some (rLp K N.o), some (rLp K N.i), some (rLi K (N.ds.map (rLD K))), some (is (.ref r)), o9, o10, o11, o12, o13, none]) ∧ W = [(r, oLi (((cs.take m).filter fl).map (r4 N.o.d N.i.d))), (q, oDi (dz cs vs))]) (di_list (de_var 2)) (fun c hc => dg_tupV (dgs_cons (dg_name 9 sc_law_near.nd) (dgs_cons (dg_name 10 sc_law_near.nd) dgs_nil))) ⟨⟨_, _, rfl⟩, rfl⟩ (fun m c G1 W1 hc hI => ?_) (fun G1 W1 hI => ?_)
    · obtain ⟨⟨o9, o10, rfl⟩, rfl⟩ := hI
      have kin : ∀ {b : Bool}, fl c = b → ((cs.take (m + 1)).filter fl).map (r4 N.o.d N.i.d) = ((cs.take m).filter fl).map (r4 N.o.d N.i.d) ++ (if b = true then [r4 N.o.d N.i.d c] else []) := fun {b} e => by
        rw [List.take_succ, hc, List.filter_append, List.map_append]
        congr 1
        show (([c] : List Cell).filter fl).map _ = _
        cases b with
        | true => rw [List.filter_cons_of_pos e, if_pos rfl]; rfl
        | false => rw [List.filter_cons_of_neg (by rw [e]; decide)]; rfl
      -- if _law_end(_law_outer[0], _law_size, 0) <= _law_i < _law_end(_law_outer[1], _law_size, 0):
      refine dss_when (k := inL N.o n 0 c.1) (dt_chain od_le (fun _ => od_lt) (de_call (fn_law_end T oo.1) hr (da_cons (de_ixT (P := is (.int N.o.a)) (de_var 5) de_int (atI_k 0 rfl)) (da_cons (de_var 1) (da_cons de_int da_nil)))) (de_var 9) (fun _ => (de_call (fn_law_end T oo.2) hr (da_cons (de_ixT (P := is (.int N.o.b)) (de_var 5) de_int (atI_k 1 rfl)) (da_cons (de_var 1) (da_cons de_int da_nil)))))) (fun hk => ?_) (fun hk => ?_)
      · -- if _law_end(_law_inner[0], _law_size, _law_i) <= _law_j < _law_end(_law_inner[1], _law_size, _law_i):
        refine dss_when (k := inL N.i n c.1 c.2) (dt_chain od_le (fun _ => od_lt) (de_call (fn_law_end T h.2.1.1) hr (da_cons (de_ixT (P := is (.int N.i.a)) (de_var 6) de_int (atI_k 0 rfl)) (da_cons (de_var 1) (da_cons (de_var 9) da_nil)))) (de_var 10) (fun _ => (de_call (fn_law_end T h.2.1.2) hr (da_cons (de_ixT (P := is (.int N.i.b)) (de_var 6) de_int (atI_k 1 rfl)) (da_cons (de_var 1) (da_cons (de_var 9) da_nil)))))) (fun hk2 => ?_) (fun hk2 => ?_)
        · have l1 : (((cs.take m).filter fl).map (r4 N.o.d N.i.d)).length < 100000 := by
            rw [List.length_map]
            have := List.length_filter_le fl (cs.take m)
            have := List.length_take_le' m cs
            omega
          -- _law_some.append(..)
          refine dss_expr (P := is .non) (dx_append1 (P := r4 N.o.d N.i.d c) (de_var 8) (de_tupV [.int (sg N.o.d c.1), .int (sg N.i.d c.2), .int c.1, .int c.2] (da_cons (de_eq (de_if (P := is (.int (sg N.o.d c.1))) (k := N.o.d) (dt_val (de_ixT (P := is (.bl N.o.d)) (de_var 5) de_int (atI_k 2 rfl))) (fun h => de_eq (de_neg (de_var 9)) (by rw [sg, if_pos h])) (fun h => de_eq (de_var 9) (by rw [sg, h]; rfl))) rfl) (da_cons (de_eq (de_if (P := is (.int (sg N.i.d c.2))) (k := N.i.d) (dt_val (de_ixT (P := is (.bl N.i.d)) (de_var 6) de_int (atI_k 2 rfl))) (fun h => de_eq (de_neg (de_var 10)) (by rw [sg, if_pos h])) (fun h => de_eq (de_var 10) (by rw [sg, h]; rfl))) rfl) (da_cons (de_var 9) (da_cons (de_var 10) da_nil))))) l1) (dss_nil (dss_nil (dss_nil ⟨⟨_, _, rfl⟩, ?_⟩)))
          rw [kin (b := true) (by show (inL N.o n 0 c.1 && inL N.i n c.1 c.2) = true; rw [hk, hk2]; rfl)]
          rfl
        · refine dss_nil (dss_nil ⟨⟨_, _, rfl⟩, ?_⟩)
          rw [kin (b := false) (by show (inL N.o n 0 c.1 && inL N.i n c.1 c.2) = false; rw [hk2, Bool.and_false])]
          rw [if_neg (by decide), List.append_nil]
      · refine dss_nil ⟨⟨_, _, rfl⟩, ?_⟩
        rw [kin (b := false) (by show (inL N.o n 0 c.1 && inL N.i n c.1 c.2) = false; rw [hk, Bool.false_and])]
        rw [if_neg (by decide), List.append_nil]
    · obtain ⟨⟨o9, o10, rfl⟩, rfl⟩ := hI
      rw [List.take_length]
      refine dss_freeL 8 ?_
      -- for _law_first, _law_then, _law_i, _law_j in sorted(_law_some):
      refine dss_forM (xs := rds N n cs) (p := r4 N.o.d N.i.d) (up := fun c G => (((G.set 11 (some (is (.int (sg N.o.d c.1))))).set 12 (some (is (.int (sg N.i.d c.2))))).set 9 (some (is (.int c.1)))).set 10 (some (is (.int c.2)))) (Iv := fun m G W => (∃ o8 o9 o10 o11 o12 o13, G = [some (rLi K [rLN K N]), some (is (.int n)), some (rLi K (cs.map rC)), some (is (.ref q)), some (is (.bl false)), some (rLp K N.o), some (rLp K N.i), some (rLi K (N.ds.map (rLD K))), o8, o9, o10, o11, o12, o13, none]) ∧ W = [(q, oDi (dz cs (efC imin imax 0 cs n N.ds ((rds N n cs).take m) vs)))]) (di_list (de_bi (ca_sort4 N.o.d N.i.d hr _) T.n_sorted boot_sorted (da_cons (de_var 8) da_nil))) (fun c hc => dg_tupV (dgs_cons (dg_name 11 sc_law_near.nd) (dgs_cons (dg_name 12 sc_law_near.nd) (dgs_cons (dg_name 9 sc_law_near.nd) (dgs_cons (dg_name 10 sc_law_near.nd) dgs_nil))))) ⟨⟨_, _, _, _, _, _, rfl⟩, rfl⟩ (fun m c G1 W1 hc hI => ?_) (fun G1 W1 hI => ?_)
      · obtain ⟨⟨o8, o9, o10, o11, o12, o13, rfl⟩, rfl⟩ := hI
        have hcm := rds_mem (List.mem_of_getElem? hc)
        have e1 := efC_snoc (mt := imin) (jn := imax) (d := 0) (cs := cs) (n := n) (Ds := N.ds) (vs := vs) hc
        have lv2 : (efC imin imax 0 cs n N.ds ((rds N n cs).take m) vs).length = cs.length := by rw [efC_len, hl]
        generalize efC imin imax 0 cs n N.ds ((rds N n cs).take m) vs = vs2 at *
        -- for _law_deed_here in _law_deeds:
        refine dss_forM (xs := N.ds) (p := rLD K) (up := fun D G => G.set 13 (some (rLD K D))) (Iv := fun t G W => (∃ o13, G = [some (rLi K [rLN K N]), some (is (.int n)), some (rLi K (cs.map rC)), some (is (.ref q)), some (is (.bl false)), some (rLp K N.o), some (rLp K N.i), some (rLi K (N.ds.map (rLD K))), o8, some (is (.int c.1)), some (is (.int c.2)), some (is (.int (sg N.o.d c.1))), some (is (.int (sg N.i.d c.2))), o13, none]) ∧ W = [(q, oDi (dz cs (efD imin imax 0 cs n c (N.ds.take t) vs2)))]) (di_list (de_var 7)) (fun D hD => (dg_name 13 sc_law_near.nd)) ⟨⟨_, rfl⟩, rfl⟩ (fun t D G1 W1 hD hI => ?_) (fun G1 W1 hI => ?_)
        · obtain ⟨⟨o13, rfl⟩, rfl⟩ := hI
          have e2 := efD_snoc (mt := imin) (jn := imax) (d := 0) (cs := cs) (n := n) (c := c) (vs := vs2) hD
          have lv3 : (efD imin imax 0 cs n c (N.ds.take t) vs2).length = cs.length := by rw [efD_len, lv2]
          generalize efD imin imax 0 cs n c (N.ds.take t) vs2 = vs3 at *
          -- _law_do(_law_deed_here, _law_size, _law_i, _law_j, _law_held, _law_bits)
          refine dss_expr (P := is .non) (dx_call (W1 := [(q, oDi (dz cs (ddo imin imax 0 D cs n c.1 c.2 vs3)))]) (fn_law_do T (q := q) (cs := cs) (vs := vs3) (h.2.2.1 D (List.mem_of_getElem? hD)) nd lv3.symm hz (him c hcm)) hr (da_cons (de_var 13) (da_cons (de_var 1) (da_cons (de_var 9) (da_cons (de_var 10) (da_cons (de_var 3) (da_cons (de_var 4) da_nil)))))) (fun _ h => h) (by simp) rfl rfl (fun _ _ _ _ _ a C h => .inl h)) (dss_nil ⟨⟨_, rfl⟩, ?_⟩)
          rw [e2]
        · obtain ⟨⟨o13, rfl⟩, rfl⟩ := hI
          refine dss_nil ⟨⟨_, _, _, _, _, _, rfl⟩, ?_⟩
          rw [e1, List.take_length]
      · obtain ⟨⟨o8, o9, o10, o11, o12, o13, rfl⟩, rfl⟩ := hI
        refine dss_nil ⟨⟨_, _, _, _, _, _, _, _, _, rfl⟩, ?_⟩
        rw [List.take_length, if_neg (by decide)]
  · obtain ⟨⟨o5, o6, o7, o8, o9, o10, o11, o12, o13, rfl⟩, rfl⟩ := hI
    have e0 : (if ([()] : List Unit).length = 0 then vs else efC imin imax 0 cs n N.ds (rds N n cs) vs) = efC imin imax 0 cs n N.ds (rds N n cs) vs := rfl
    rw [e0]
    have lv : (efC imin imax 0 cs n N.ds (rds N n cs) vs).length = cs.length := by rw [efC_len, hl]
    generalize efC imin imax 0 cs n N.ds (rds N n cs) vs = vs2 at *
    -- return [_law_held[_law_cell] for _law_cell in _law_cells_here]
    exact dss_ret (de_eq (de_lcA (own := [("_law_cell", 14)]) (js := [14]) (xs := cs) (p := rC) (r := fun x => rI (vs2.getD (cs.idxOf x) 0)) (up := fun x G => G.set 14 (some (rC x))) sc_law_near.nd (di_list (de_var 2)) (blk_of (by kernel_rfl)) (by simp) (by omega) (fun s H C cl fp x hx => (dg_name 14 sc_law_near.nd)) (fun s H C cl fp x hx => (de_dgetO (ky := ck x) hr List.mem_cons_self (de_var 3) (de_var 14) (lk_dz nd lv.symm (by rw [List.getElem?_eq_getElem (List.idxOf_lt_length_iff.mpr hx), List.getElem_idxOf]))))) (by rw [by_pos nd lv]; rfl)) (rt_same)
end
end
end SQ
end
section
set_option maxHeartbeats 400000
namespace SQ
open PySem PySem.Spec PyProof.Rows L2 StX ClX
noncomputable section
def inN (n : Int) : Int → Prop := fun x => 0 ≤ x ∧ x < n
section
variable {P : Program} {w : World} {K : PySem.W.Frag} {mg : Str → Option Value} {base : Heap} {A : Ad}
theorem sc_law_far : FnScope ["_law_purl_here", "_law_figures", "_law_found", "_law_k"] ["_law_purl_here"] (defScope (top 122)) := ⟨rfl, rfl, rfl, by decide +kernel, rfl, by decide +kernel, by decide +kernel⟩
theorem fn_law_far (T : Tx K w mg A) {q : Addr} : FnG P w K mg base "_law_far" 2 [is (.ref q)] [(q, oPu)] [(q, oPu)] (rZ fun n => 1 ≤ n ∧ n ≤ 10 ^ 30) :=
  fng_of T.d_law_far sc_law_far rfl (fun _ _ _ _ _ _ us hl => match us, hl with | [_], _ => rfl) fun f cdv Ar outer s H E hr => by
  -- if _law_dig(_law_purl_here, 3) == 0:
  refine dss_ifE (dt_cmpE od_eqZ (de_callO (fn_law_dig T (k := 3) (by decide)) hr (da_cons (de_var 0) (da_cons de_int da_nil))) de_int) ?_ (dss_nil ?_)
  · -- return 1 + _law_dig(_law_purl_here, 13)
    exact dss_ret (de_bin (od_Z2 (g := fun x => 1 + x) (p := dgP 13) (fun x _ => od_add) (fun x hx => by have h1 := hx.1; have h2 := hx.2; omega)) de_int (de_callO (fn_law_dig T (k := 13) (by decide)) hr (da_cons (de_var 0) (da_cons de_int da_nil)))) rt_same
  -- _law_figures, _law_found = (2 + _law_dig(_law_purl_here, 29), 0)
  refine dss_par 1 2 (P1 := rZ fun z => 2 ≤ z ∧ z ≤ 31) (da_cons (de_bin (od_Z2 (g := fun x => 2 + x) (p := dgP 29) (fun x _ => od_add) (fun x hx => by have h1 := hx.1; have h2 := hx.2; omega)) de_int (de_callO (fn_law_dig T (k := 29) (by decide)) hr (da_cons (de_var 0) (da_cons de_int da_nil)))) (da_cons de_int da_nil)) ?_ sc_law_far.nd
  refine dss_exZ 1 fun z hz => ?_
  -- for _law_k in range(_law_figures):
  refine dss_for (Iv := fun m G W => ∃ (y : Int) (o3 : Option VP), 0 ≤ y ∧ G = [some (is (.ref q)), some (is (.int z)), some (is (.int y)), o3] ∧ W = [(q, oPu)]) (di_range1 T.n_range (da_cons (de_var 1) da_nil) (by omega)) (fun P hP => (dg_name 3 sc_law_far.nd)) ⟨0, _, Int.le_refl 0, rfl, rfl⟩ (fun m P G1 W1 hP hI => ?_) (fun G1 W1 hI => ?_)
  · obtain ⟨y, o3, hy, rfl, rfl⟩ := hI
    -- _law_found = _law_found * 10 + _law_dig(_law_purl_here, 10)
    refine dss_set 2 (P := rZ fun y => 0 ≤ y) (de_bin (od_Z2 (g := fun x => y * 10 + x) (p := dgP 10) (fun x _ => od_add) (fun x hx => by have h1 := hx.1; omega)) (de_bin (od_mul (.inr (by decide))) (de_var 2) de_int) (de_callO (fn_law_dig T (k := 10) (by decide)) hr (da_cons (de_var 0) (da_cons de_int da_nil)))) ?_ sc_law_far.nd
    exact dss_exZ 2 fun y hy => dss_nil ⟨y, _, hy, rfl, rfl⟩
  · obtain ⟨y, o3, hy, rfl, rfl⟩ := hI
    -- return 1 + int(_law_found) % 10 ** 30
    refine dss_ret (de_bin od_add de_int (de_bin (od_mod (j := 10 ^ (30 : Int).toNat) (by decide)) (de_ty ca_int T.n_int boot_int (da_cons (de_var 2) da_nil)) (de_bin (od_pow (by decide)) de_int de_int))) (rt_to fun v H b => ?_)
    rw [b.eq]
    refine bx_zI ?_
    have h1 := Int.emod_nonneg y (show (10 ^ (30 : Int).toNat : Int) ≠ 0 by decide)
    have h2 := Int.emod_lt_of_pos y (show (0 : Int) < 10 ^ (30 : Int).toNat by decide)
    have h3 : (10 ^ (30 : Int).toNat : Int) = 10 ^ 30 := rfl
    rw [h3] at h1 h2 ⊢
    omega
def eSpt (K : PySem.W.Frag) (n : Int) : VP := rE (ι := {c : Cell // 0 ≤ c.1 ∧ c.1 < n ∧ 0 ≤ c.2 ∧ c.2 < n}) fun c => rTu K [is (.int c.1.1), is (.int c.1.2)]
theorem sc_law_spot : FnScope ["_law_purl_here", "_law_size", "_law_kind", "_law_row", "_law_column"] ["_law_purl_here", "_law_size"] (defScope (top 123)) := ⟨rfl, rfl, rfl, by decide +kernel, rfl, by decide +kernel, by decide +kernel⟩
theorem od_modN {X : Cx} {W : Ow} {p : Int → Prop} {n : Int} (hn : 1 ≤ n) : OpD X W (binaryOp .Mod) (rZ p) (is (.int n)) (rZ (inN n)) := od_Z1 (g := fun x => x % n) (fun x _ => od_mod (by omega)) (fun x _ => ⟨Int.emod_nonneg x (by omega), Int.emod_lt_of_pos x (by omega)⟩)
theorem od_addZ {X : Cx} {W : Ow} {p q : Int → Prop} : OpD X W (binaryOp .Add) (rZ p) (rZ q) (rZ fun _ => True) := od_ZZ (g := fun x y => x + y) (fun _ _ _ _ => od_add) (fun _ _ _ _ => trivial)
theorem od_addZ2 {X : Cx} {W : Ow} {q : Int → Prop} {i : Int} : OpD X W (binaryOp .Add) (is (.int i)) (rZ q) (rZ fun _ => True) := od_Z2 (g := fun y => i + y) (fun _ _ => od_add) (fun _ _ => trivial)
theorem fn_law_spot (T : Tx K w mg A) {q : Addr} {n : Int} (hn : 1 ≤ n) : FnG P w K mg base "_law_spot" 2 [is (.ref q), is (.int n)] [(q, oPu)] [(q, oPu)] (eSpt K n) :=
  fng_of T.d_law_spot sc_law_spot rfl (fun _ _ _ _ _ _ us hl => match us, hl with | [_, _], _ => rfl) fun f cdv Ar outer s H E hr => by
  -- _law_kind = _law_dig(_law_purl_here, 4)
  refine dss_set 2 (de_callO (fn_law_dig T (k := 4) (by decide)) hr (da_cons (de_var 0) (da_cons de_int da_nil))) ?_ sc_law_spot.nd
  refine dss_exZ 2 fun kd hkd => ?_
  -- _law_row = ..
  refine dss_set 3 (P := rZ (inN n)) (de_bin (od_modN hn) (de_ty ca_intZ T.n_int boot_int (da_cons (de_bin od_addZ (de_bin (od_Z1 (p := dgP 1000003) (r := fun _ => True) (fun x hx => od_mul (.inl (by have h1 := hx.1; have h2 := hx.2; omega))) (fun _ _ => trivial)) (de_callO (fn_law_dig T (k := 1000003) (by decide)) hr (da_cons (de_var 0) (da_cons de_int da_nil))) (de_bin (od_pow (by decide)) de_int de_int)) (de_callO (fn_law_dig T (k := 1000003) (by decide)) hr (da_cons (de_var 0) (da_cons de_int da_nil)))) da_nil)) (de_var 1)) ?_ sc_law_spot.nd
  -- _law_column = ..
  refine dss_set 4 (P := rZ (inN n)) (de_bin (od_modN hn) (de_ty ca_intZ T.n_int boot_int (da_cons (de_bin od_addZ (de_bin (od_Z1 (p := dgP 1000003) (r := fun _ => True) (fun x hx => od_mul (.inl (by have h1 := hx.1; have h2 := hx.2; omega))) (fun _ _ => trivial)) (de_callO (fn_law_dig T (k := 1000003) (by decide)) hr (da_cons (de_var 0) (da_cons de_int da_nil))) (de_bin (od_pow (by decide)) de_int de_int)) (de_callO (fn_law_dig T (k := 1000003) (by decide)) hr (da_cons (de_var 0) (da_cons de_int da_nil)))) da_nil)) (de_var 1)) ?_ sc_law_spot.nd
  -- all that follows keeps row and column in the table
  let J : Gm → Ow → Prop := fun G W => G = [some (is (.ref q)), some (is (.int n)), some (is (.int kd)), some (rZ (inN n)), some (rZ (inN n))] ∧ W = [(q, oPu)]
  have join : ∀ {X : Cx} {G : Gm} {cond : Expr} {ta rest : List Stmt} {pos : Pos} {D : DEn} {k : Bool}, DT X G [(q, oPu)] cond k → (k = true → DSs X G [(q, oPu)] ta { D with nx := J, ct := D.ct, bk := D.bk }) → True := fun _ _ => trivial
  clear join
  have last : DSs (Xb P w K mg base ["_law_purl_here", "_law_size", "_law_kind", "_law_row", "_law_column"] "_law_spot" (defScope (top 123)) f cdv Ar outer s H E) [some (is (.ref q)), some (is (.int n)), some (is (.int kd)), some (rZ (inN n)), some (rZ (inN n))] [(q, oPu)] ((defBody (top 123)).drop 6) (retD (eSpt K n) [(q, oPu)]) := by
    have fin : ∀ {v : V} {H : Hp}, Bx (rTu K [rZ (inN n), rZ (inN n)]) v H → Bx (eSpt K n) v H := fun {v H} h => by
      obtain ⟨t, us, rfl, hq, r⟩ := h.here
      cases r with
      | cons r1 r => cases r with
        | cons r2 r =>
          cases r
          obtain ⟨a, ha, rfl⟩ := bx_z r1
          obtain ⟨b, hb, rfl⟩ := bx_z r2
          exact bx_eI ⟨(a, b), ha.1, ha.2, hb.1, hb.2⟩ (bx_tu hq (.cons bx_is (.cons bx_is .nil)))
    -- if _law_dig(_law_purl_here, 2) == 0:
    refine dss_ifE (dt_cmpE od_eqZ (de_callO (fn_law_dig T (k := 2) (by decide)) hr (da_cons (de_var 0) (da_cons de_int da_nil))) de_int) ?_ (dss_nil ?_)
    · -- _law_row = _law_size - 1 - _law_row
      refine dss_set 3 (P := rZ (inN n)) (de_bin (od_Z2 (g := fun x => n - 1 - x) (p := inN n) (fun x _ => od_sub) (fun x hx => ⟨by have h1 := hx.1; have h2 := hx.2; omega, by have h1 := hx.1; have h2 := hx.2; omega⟩)) (de_bin od_sub (de_var 1) de_int) (de_var 3)) (dss_nil ?_) sc_law_spot.nd
      exact dss_ret (de_tup (da_cons (de_var 3) (da_cons (de_var 4) da_nil))) (rt_to fun v H h => fin h)
    · exact dss_ret (de_tup (da_cons (de_var 3) (da_cons (de_var 4) da_nil))) (rt_to fun v H h => fin h)
  -- if _law_kind == 2:
  have k2 : DSs (Xb P w K mg base ["_law_purl_here", "_law_size", "_law_kind", "_law_row", "_law_column"] "_law_spot" (defScope (top 123)) f cdv Ar outer s H E) [some (is (.ref q)), some (is (.int n)), some (is (.int kd)), some (rZ (inN n)), some (rZ (inN n))] [(q, oPu)] ((defBody (top 123)).drop 5) (retD (eSpt K n) [(q, oPu)]) := by
    refine dss_if (dt_cmp od_eqI (de_var 2) de_int) (fun _ => ?_) (fun _ => dss_nil last)
    refine dss_set 4 (P := rZ (inN n)) (de_bin (od_modN hn) (de_ty ca_intZ T.n_int boot_int (da_cons (de_bin od_addZ (de_var 3) (de_callO (fn_law_dig T (k := 3) (by decide)) hr (da_cons (de_var 0) (da_cons de_int da_nil)))) da_nil)) (de_var 1)) (dss_nil last) sc_law_spot.nd
  -- if _law_kind == 1:
  have k1 : DSs (Xb P w K mg base ["_law_purl_here", "_law_size", "_law_kind", "_law_row", "_law_column"] "_law_spot" (defScope (top 123)) f cdv Ar outer s H E) [some (is (.ref q)), some (is (.int n)), some (is (.int kd)), some (rZ (inN n)), some (rZ (inN n))] [(q, oPu)] ((defBody (top 123)).drop 4) (retD (eSpt K n) [(q, oPu)]) := by
    refine dss_if (dt_cmp od_eqI (de_var 2) de_int) (fun _ => ?_) (fun _ => dss_nil k2)
    refine dss_set 3 (P := rZ (inN n)) (de_bin (od_modN hn) (de_ty ca_intZ T.n_int boot_int (da_cons (de_bin od_addZ2 (de_bin (od_fdiv (by decide) (by decide)) (de_var 1) de_int) (de_callO (fn_law_dig T (k := 4) (by decide)) hr (da_cons (de_var 0) (da_cons de_int da_nil)))) da_nil)) (de_var 1)) ?_ sc_law_spot.nd
    refine dss_set 4 (P := rZ (inN n)) (de_bin (od_modN hn) (de_ty ca_intZ T.n_int boot_int (da_cons (de_bin od_addZ2 (de_bin (od_fdiv (by decide) (by decide)) (de_var 1) de_int) (de_callO (fn_law_dig T (k := 4) (by decide)) hr (da_cons (de_var 0) (da_cons de_int da_nil)))) da_nil)) (de_var 1)) (dss_nil k2) sc_law_spot.nd
  -- if _law_kind == 0:
  refine dss_if (dt_cmp od_eqI (de_var 2) de_int) (fun _ => ?_) (fun _ => dss_nil k1)
  refine dss_par 3 4 (P1 := rZ (inN n)) (P2 := rZ (inN n)) (da_cons (de_bin (od_modN hn) (de_ty ca_intZ T.n_int boot_int (da_cons (de_callO (fn_law_dig T (k := 4) (by decide)) hr (da_cons (de_var 0) (da_cons de_int da_nil))) da_nil)) (de_var 1)) (da_cons (de_bin (od_modN hn) (de_ty ca_intZ T.n_int boot_int (da_cons (de_callO (fn_law_dig T (k := 4) (by decide)) hr (da_cons (de_var 0) (da_cons de_int da_nil))) da_nil)) (de_var 1)) da_nil)) (dss_nil k1) sc_law_spot.nd
end
end
end SQ
end
section
set_option maxHeartbeats 400000
namespace SQ
open PySem PySem.Spec PyProof.Rows L2 StX ClX
noncomputable section
/-! lists of ints as data -/
def lD (vs : List Int) : PyData := .list (vs.map .int)
def rLs (K : PySem.W.Frag) (vs : List Int) : VP := rLi K (vs.map rI)
theorem dt_ls {K : PySem.W.Frag} {vs : List Int} : Dt K (rLs K vs) (lD vs) := dt_li (paired_map fun x _ => dt_int)
theorem dt_lss {K : PySem.W.Frag} {xs : List (List Int)} : Paired (Dt K) (xs.map (rLs K)) (xs.map lD) := paired_map fun x _ => dt_ls
theorem lD_lay (vs : List Int) : (lD vs).canLay0 = true := by
  unfold lD
  rw [PyData.canLay0]
  exact layAll (fun x => by simp [PyData.canLay0]) vs
theorem lD_dep (vs : List Int) : (lD vs).depth ≤ 3 := by
  unfold lD
  rw [PyData.depth]
  have := depAll (f := PyData.int) (n := 1) (fun x => by simp [PyData.depth]) vs
  omega
theorem sh_lD (vs : List Int) : SeqAt.shaped (lD vs) = true := sh_of (lD_lay vs) (lD_dep vs) (by decide)
theorem sh_lDs (xs : List (List Int)) : SeqAt.shaped (.list (xs.map lD)) = true := by
  refine sh_of (n := 5) ?_ ?_ (by decide)
  · rw [PyData.canLay0]
    exact layAll lD_lay xs
  · rw [PyData.depth]
    have := depAll lD_dep xs
    omega
theorem eqv_lD : ∀ (as bs : List Int), PyData.eqv (lD as) (lD bs) = decide (as = bs)
  | [], [] => rfl
  | [], b :: bs => by simp [lD, PyData.eqv, PyData.eqvAll]
  | a :: as, [] => by simp [lD, PyData.eqv, PyData.eqvAll]
  | a :: as, b :: bs => by
    have ih := eqv_lD as bs
    unfold lD at ih ⊢
    rw [PyData.eqv] at ih ⊢
    rw [List.map_cons, List.map_cons, PyData.eqvAll, ih, PyData.eqv]
    by_cases h1 : a = b <;> by_cases h2 : as = bs <;> simp [h1, h2]
theorem any_lD (c : List Int) : ∀ cs : List (List Int), ((cs.map lD).any fun z => PyData.eqv z (lD c)) = decide (c ∈ cs)
  | [] => by simp
  | x :: cs => by
    rw [List.map_cons, List.any_cons, any_lD c cs, eqv_lD]
    by_cases h1 : x = c
    · subst h1; simp
    · have h2 : ¬ c = x := fun z => h1 z.symm
      simp [h1, h2]
section
variable {X : Cx} {G : Gm} {W : Ow} {D : DEn} {rest : List Stmt} {a b e : Expr} {x : Str} {pos apos cpos : Pos} {P P1 P2 : VP} {C : OC} {k : Nat}
theorem od_inDO {q : Addr} {Ps : List VP} {d : PyData} {ds : List PyData} (hq : (q, oLi Ps) ∈ W) (hr : Room k X.A) (h1 : Dt X.K P1 d) (h2 : Paired (Dt X.K) Ps ds) (s1 : SeqAt.shaped d = true) (s2 : SeqAt.shaped (.list ds) = true) : OpD X W (compareOp .In) P1 (is (.ref q)) (is (.bl (ds.any fun z => PyData.eqv z d))) :=
  ⟨_, op_inD (by have := hr.un; omega), fun c G s H v1 v2 Q S b1 b2 kq => by
    rw [b2.eq]
    obtain ⟨us, hu, r⟩ := mem_of_owned S hq
    exact ⟨d, ds, Dp.mono vis_sub (h1 _ _ b1), .lst (SqL.of hu) (DpAll.mono vis_sub (dt_all h2 r)), s1, s2, kq _ H (Same.refl H) bx_is⟩⟩
/-- l.index(x), any data -/
theorem de_lindexD {Ps : List VP} {d z : PyData} {ds : List PyData} (j : Nat) (hr : Room k X.A) (h1 : Paired (Dt X.K) Ps ds) (h2 : Dt X.K P d) (sh1 : SeqAt.shaped (.list ds) = true) (sh2 : SeqAt.shaped d = true) (hz : ds[j]? = some z) (hzj : PyData.eqv z d = true)
    (hno : ∀ (m : Nat) (z' : PyData), m < j → ds[m]? = some z' → PyData.eqv z' d = false) (ho : DE X G W a (rLi X.K Ps)) (hb : DE X G W b P)
    (hbase : attributeBase a "index" X.env (eval a X.env) = eval a X.env := by rfl)
    (hfew : ((backTo cpos (starEach [b] X.env)).all (fun x => !x.1) && (backToKw cpos (keywordEach [] X.env)).all (fun x => x.1.isSome)
      && decide ([b].length + ([] : List Keyword).length + (if ([] : List Keyword).isEmpty then 0 else 1) < 30)) = true := by rfl)
    (hline : (apos.endLine == cpos.line) = true := by rfl) (hs : starEach [b] X.env = [(false, eval b X.env)] := by rfl) : DE X G W (.Call (.Attribute a "index" apos) [b] [] cpos) (is (.int j)) :=
  PE.to (pe_bm PySem.F.plainAttrs_list PySem.F.slot_list_index PySem.F.type_list_index (mt_indexD (by have := hr.un; omega)) ho (da_cons hb da_nil hs) hbase hfew hline hs rfl) fun s H Q ⟨c, S, kq⟩ => ⟨c, S, fun v H1 S1 e1 b1 => by
    obtain ⟨q, us, rfl, hq, rr⟩ := id b1.here
    refine ⟨.inl ⟨rfl, us, Same.lsq vis_sub hq⟩, c, S1, fun vs H2 S2 e2 b2 => ?_⟩
    obtain ⟨y, rfl, by1⟩ := bx1 b2
    exact ⟨q, y, d, ds, j, z, rfl, rfl, Dp.mono vis_sub (dt_li h1 _ _ (b1.mono e2)), Dp.mono vis_sub (h2 _ _ by1), sh1, sh2, hz, hzj, hno, kq _ H2 S2 (e1.trans e2) bx_is⟩⟩
/-- what is owned first is forgotten -/
theorem dss_drop1 {q : Addr} (h : DSs X G W rest D) : DSs X G ((q, C) :: W) rest D := ⟨fun pins s σ H E I ⟨c, S, eo⟩ => h.run pins s σ H E I ⟨c, S.drop (fun _ h => List.mem_cons_of_mem _ h) (List.nodup_cons.mp S.nd).2, eo⟩⟩
/-- a, b = e1, e2, e1 a new object -/
theorem dss_parN1 (i j : Nat) {y : Str} {px py pt : Pos} {kt k2 pt2} (ha : DN X G W a C) (hb : ∀ r, DE X G ((r, C) :: W) b P1) (h : ∀ r, DSs X ((G.set i (some (is (.ref r)))).set j (some P1)) ((r, C) :: W) rest D) (hN : X.N.Nodup) (hij : i ≠ j := by decide) (hi : X.N[i]? = some x := by rfl) (hj : X.N[j]? = some y := by rfl)
    (hc : X.calm = true := by rfl) (hx : X.env.scope.names.lookup x = some .local := by rfl) (hy : X.env.scope.names.lookup y = some .local := by rfl)
    (hw : swappedStores [.Tuple [.Name x px, .Name y py] kt pt] (.Tuple [a, b] k2 pt2) X.env = pure (some [x, y]) := by rfl)
    (hs : swapsWithSole [.Tuple [.Name x px, .Name y py] kt pt] (.Tuple [a, b] k2 pt2) pos.line X.env = pure false := by rfl)
    (he : starEach [b] X.env = [(false, eval b X.env)] := by rfl) (he2 : starEach (a :: [b]) X.env = (false, eval a X.env) :: starEach [b] X.env := by rfl) :
    DSs X G W (.Assign [.Tuple [.Name x px, .Name y py] kt pt] (.Tuple [a, b] k2 pt2) pos :: rest) D := by
  have hb2 : PE X b (fun s H Q => ∃ c r, StOk c G ((r, C) :: W) s H ∧ ∀ v H', StOk c G ((r, C) :: W) s H' → Bx P1 v (vis c ((r, C) :: W) H') → Q v H') := ⟨fun pins s σ H Q I ⟨c, r, S, kq⟩ => (hb r).run pins s σ H Q I ⟨c, S, fun v H' S' _ b' => kq v H' S' b'⟩⟩
  have hp : PA X [a, b] (fun s H Q => ∃ c, StOk c G W s H ∧ ∀ v r H', StOk c G ((r, C) :: W) s H' → Bx P1 v (vis c ((r, C) :: W) H') → Q [.ref r, v] H') :=
    PA.to (pa_cons ha (pa_cons hb2 pa_nil he) he2) fun s H Q ⟨c, S, kq⟩ => ⟨c, S, fun r H1 S1 e1 n => ⟨c, r, S1, fun v H2 S2 b2 => kq v r H2 S2 b2⟩⟩
  exact dss_cons (PS.to (ps_par hc hN hi hj hij hx hy hp hw hs) fun E s H ⟨c, S, eo⟩ => ⟨c, S, fun v r H' S' b1 => ⟨_, _, rfl, eo.nx _ _ _ H' (h r) ((S'.setE (P := is (.ref r)) i bx_is).setE j b1)⟩⟩)
end
end
end SQ
end
section
set_option maxHeartbeats 400000
namespace SQ
open PySem PySem.Spec PyProof.Rows L2 StX ClX
noncomputable section
theorem zp_map {K : PySem.W.Frag} {α β : Type} (f : α → VP) (g : β → VP) (xs : List α) (ys : List β) : zpP K (xs.map f) (ys.map g) = (xs.zip ys).map fun p => rTu K [f p.1, g p.2] := by
  unfold zpP
  rw [List.zipWith_map, List.zip, List.map_zipWith]
theorem dz_snoc {cs : List Cell} {vs : List Int} {t : Nat} {c : Cell} {v : Int} (nd : cs.Nodup) (h : (cs.zip vs)[t]? = some (c, v)) : putP (dz (cs.take t) (vs.take t)) (ck c) (is (.int v)) = dz (cs.take (t + 1)) (vs.take (t + 1)) := by
  obtain ⟨h1, h2⟩ := List.getElem?_zip_eq_some.mp h
  have e1 : cs.take (t + 1) = cs.take t ++ [c] := by rw [List.take_succ, h1]; rfl
  have e2 : vs.take (t + 1) = vs.take t ++ [v] := by rw [List.take_succ, h2]; rfl
  have l1 := (List.getElem?_eq_some_iff.mp h1).1
  have l2 := (List.getElem?_eq_some_iff.mp h2).1
  have hn : ck c ∉ (dz (cs.take t) (vs.take t)).map (·.1) := by
    unfold dz
    intro z
    obtain ⟨⟨k, q⟩, hq, e⟩ := List.mem_map.mp z
    have := (List.of_mem_zip hq).1
    obtain ⟨d, hd, e3⟩ := List.mem_map.mp this
    have e4 : ck d = ck c := e3.trans e
    have e5 := ck_inj e4
    subst e5
    obtain ⟨i, hi⟩ := List.getElem?_of_mem hd
    rw [List.getElem?_take] at hi
    split at hi
    · rename_i hlt
      have a1 := (List.getElem?_eq_some_iff.mp hi)
      have i1 := nd.idxOf_getElem i a1.1
      have i2 := nd.idxOf_getElem t l1
      have a2 := (List.getElem?_eq_some_iff.mp h1).2
      rw [a1.2] at i1
      rw [a2] at i2
      dsimp only at i1 i2
      omega
    · cases hi
  rw [putP_new hn, e1, e2]
  unfold dz
  rw [List.map_append, List.map_append, List.zip_append (by rw [List.length_map, List.length_map, List.length_take, List.length_take]; omega)]
  rfl
/-- least and greatest -/
def lMin : List Int → Int
  | [] => 0
  | [x] => x
  | x :: y :: xs => imin x (lMin (y :: xs))
def lMax : List Int → Int
  | [] => 0
  | [x] => x
  | x :: y :: xs => imax x (lMax (y :: xs))
theorem lMin_ok : ∀ {xs : List Int}, xs ≠ [] → lMin xs ∈ xs ∧ ∀ y ∈ xs, lMin xs ≤ y
  | [], h => absurd rfl h
  | [x], _ => ⟨List.mem_cons_self, fun y hy => by rw [List.mem_singleton.mp hy]; exact Int.le_refl _⟩
  | x :: y :: xs, _ => by
    obtain ⟨h1, h2⟩ := lMin_ok (xs := y :: xs) (by simp)
    have e : lMin (x :: y :: xs) = imin x (lMin (y :: xs)) := rfl
    rw [e]
    unfold imin
    by_cases z : lMin (y :: xs) < x
    · rw [if_pos z]
      refine ⟨List.mem_cons_of_mem _ h1, fun w hw => ?_⟩
      rcases List.mem_cons.mp hw with rfl | hw
      · omega
      · exact h2 w hw
    · rw [if_neg z]
      refine ⟨List.mem_cons_self, fun w hw => ?_⟩
      rcases List.mem_cons.mp hw with rfl | hw
      · omega
      · have := h2 w hw
        omega
theorem lMax_ok : ∀ {xs : List Int}, xs ≠ [] → lMax xs ∈ xs ∧ ∀ y ∈ xs, y ≤ lMax xs
  | [], h => absurd rfl h
  | [x], _ => ⟨List.mem_cons_self, fun y hy => by rw [List.mem_singleton.mp hy]; exact Int.le_refl _⟩
  | x :: y :: xs, _ => by
    obtain ⟨h1, h2⟩ := lMax_ok (xs := y :: xs) (by simp)
    have e : lMax (x :: y :: xs) = imax x (lMax (y :: xs)) := rfl
    rw [e]
    unfold imax
    by_cases z : lMax (y :: xs) > x
    · rw [if_pos z]
      refine ⟨List.mem_cons_of_mem _ h1, fun w hw => ?_⟩
      rcases List.mem_cons.mp hw with rfl | hw
      · omega
      · exact h2 w hw
    · rw [if_neg z]
      refine ⟨List.mem_cons_self, fun w hw => ?_⟩
      rcases List.mem_cons.mp hw with rfl | hw
      · omega
      · have := h2 w hw
        omega
def tmV (cs : List Cell) (vs : List Int) (t : List Cell) : Int := lMin (t.map fun c => vs.getD (cs.idxOf c) 0)
def metV (cs : List Cell) (vs : List Int) (F : List (List Cell)) : Int := lMax (F.map (tmV cs vs))
section
variable {P : Program} {w : World} {K : PySem.W.Frag} {mg : Str → Option Value} {base : Heap} {A : Ad}
theorem sc_law_met : FnScope ["_law_formula", "_law_cells_here", "_law_content", "_law_leasts", "_law_some", "_law_cell"] ["_law_formula", "_law_cells_here", "_law_content"] (defScope (top 125)) := ⟨rfl, rfl, rfl, by decide +kernel, rfl, by decide +kernel, by decide +kernel⟩
theorem fn_law_met (T : Tx K w mg A) {F : List (List Cell)} {cs : List Cell} {vs : List Int} (hF : F ≠ []) (hFl : F.length ≤ 256) (hs : ∀ t ∈ F, t ≠ [] ∧ t.length ≤ 8 ∧ ∀ c ∈ t, c ∈ cs) (hl : vs.length = cs.length) :
    FnG P w K mg base "_law_met" 1 [rTu K (F.map (rCs K)), rLi K (cs.map rC), rLs K vs] [] [] (is (.int (metV cs vs F))) :=
  fng_of T.d_law_met sc_law_met rfl (fun _ _ _ _ _ _ us hl => match us, hl with | [_, _, _], _ => rfl) fun f cdv Ar outer s H E hr => by
  -- _law_leasts = []
  refine dss_setN 3 (dn_lst da_nil) (fun q => ?_) sc_law_met.nd
  -- for _law_some in _law_formula:
  refine dss_forM (xs := F) (p := rCs K) (up := fun t G => G.set 4 (some (rCs K t))) (Iv := fun m G W => (∃ o4, G = [some (rTu K (F.map (rCs K))), some (rLi K (cs.map rC)), some (rLs K vs), some (is (.ref q)), o4, none]) ∧ W = [(q, oLi (((F.take m).map (tmV cs vs)).map rI))]) (di_tup (de_var 0)) (fun t ht => (dg_name 4 sc_law_met.nd)) ⟨⟨_, rfl⟩, rfl⟩ (fun m t G1 W1 ht hI => ?_) (fun G1 W1 hI => ?_)
  · obtain ⟨⟨o4, rfl⟩, rfl⟩ := hI
    obtain ⟨t1, t2, t3⟩ := hs t (List.mem_of_getElem? ht)
    have hml : m < F.length := (List.getElem?_eq_some_iff.mp ht).1
    obtain ⟨m1, m2⟩ := lMin_ok (xs := t.map fun c => vs.getD (cs.idxOf c) 0) (by simpa using t1)
    -- _law_leasts.append(min([_law_content[_law_cells_here.index(_law_cell)] for _law_cell in _law_some]))
    refine dss_expr (P := is .non) (dx_append1 (P := rI (tmV cs vs t)) (de_var 3) (de_bi (ca_minL (ns := t.map fun c => vs.getD (cs.idxOf c) 0) m1 m2) T.n_min boot_min (da_cons (de_eq (de_lcA (own := [("_law_cell", 5)]) (js := [5]) (xs := t) (p := rC) (r := fun c => rI (vs.getD (cs.idxOf c) 0)) (up := fun c G => G.set 5 (some (rC c))) sc_law_met.nd (di_tup (de_var 4)) (blk_of (by kernel_rfl)) (by simp) (by omega) (fun s H C cl fp x hx => (dg_name 5 sc_law_met.nd)) (fun s H C cl fp c hc => (de_ixL (i := (cs.idxOf c : Nat)) (de_var 2) (de_lindexD (cs.idxOf c) hr dt_cells (dt_rC (c := c)) (sh_csL cs) (sh_cD c) (idx_no (t3 c hc)).1 (by rw [eqv_cD]; simp) (idx_no (t3 c hc)).2 (de_var 1) (de_var 5)) (atI_k (cs.idxOf c) ?_)))) (by rw [List.map_map]; rfl)) da_nil)) (by rw [List.length_map, List.length_map, List.length_take]; omega)) (dss_nil ⟨⟨_, rfl⟩, ?_⟩)
    · have hi : cs.idxOf c < vs.length := by rw [hl]; exact List.idxOf_lt_length_iff.mpr (t3 c hc)
      rw [List.getElem?_map, List.getElem?_eq_getElem hi, List.getD_eq_getElem?_getD, List.getElem?_eq_getElem hi]
      rfl
    · rw [List.take_succ, ht, List.map_append, List.map_append]
      rfl
  · obtain ⟨⟨o4, rfl⟩, rfl⟩ := hI
    rw [List.take_length]
    refine dss_freeL 3 ?_
    obtain ⟨m1, m2⟩ := lMax_ok (xs := F.map (tmV cs vs)) (by simpa using hF)
    -- return max(_law_leasts)
    exact dss_ret (de_bi (ca_maxL (ns := F.map (tmV cs vs)) m1 m2) T.n_max boot_max (da_cons (de_var 3) da_nil)) (rt_same)
/-- one round of all -/
def rnd (N : LN) (n : Int) (cs : List Cell) (vs : List Int) : List Int := efC imin imax 0 cs n N.ds (rds N n cs) vs
theorem rnd_len {N : LN} {n : Int} {cs : List Cell} {vs : List Int} : (rnd N n cs vs).length = vs.length := efC_len ..
theorem itr_rnd_len {N : LN} {n : Int} {cs : List Cell} {vs : List Int} : ∀ k, (itr (rnd N n cs) k vs).length = vs.length
  | 0 => rfl
  | k + 1 => rnd_len.trans (itr_rnd_len k)
theorem sc_law_after : FnScope ["_law_plan_here", "_law_size", "_law_cells_here", "_law_content", "_law_exponent", "_law_way", "_law_last", "_law_turn", "_law_held", "_law_cell", "_law_entry", "_law_begin"] ["_law_plan_here", "_law_size", "_law_cells_here", "_law_content", "_law_exponent"] (defScope (top 124)) := ⟨rfl, rfl, rfl, by decide +kernel, rfl, by decide +kernel, by decide +kernel⟩
theorem fn_law_after (T : Tx K w mg A) {N : LN} {n : Int} {cs : List Cell} {x : List Int} {p : Nat} (h : N.ok) (nd : cs.Nodup) (hl : cs.length = x.length) (hz : cs.length ≤ 8) (him : ∀ x ∈ cs, ∀ s, s < 8 → im n x.1 x.2 s ∈ cs) (hpg : ∀ k, (way (rnd N n cs) x k).Nodup → k ≤ 256) :
    FnG P w K mg base "_law_after" 4 [rLi K [rLN K N], is (.int n), rLi K (cs.map rC), rLs K x, is (.int p)] [] [] (rLs K (itr (rnd N n cs) p x)) :=
  fng_of T.d_law_after sc_law_after rfl (fun _ _ _ _ _ _ us hl => match us, hl with | [_, _, _, _, _], _ => rfl) fun f cdv Ar outer s H E hr => by
  have itl := itr_rnd_len (N := N) (n := n) (cs := cs) (vs := x)
  have wn := @way_nd (List Int) (rnd N n cs) x
  have hrnd : ∀ k, itr (rnd N n cs) (k + 1) x = rnd N n cs (itr (rnd N n cs) k x) := fun _ => rfl
  -- _law_way, _law_last = ([], _law_content)
  refine dss_parN1 5 6 (dn_lst da_nil) (fun r => de_var 3) (fun q => ?_) sc_law_after.nd
  -- what follows the loop
  have fin : ∀ m : Nat, m ≤ p → (way (rnd N n cs) x m).Nodup → (itr (rnd N n cs) m x ∈ way (rnd N n cs) x m ∨ m = p) → ∀ o7 o8 o9 o10, DSs (Xb P w K mg base ["_law_plan_here", "_law_size", "_law_cells_here", "_law_content", "_law_exponent", "_law_way", "_law_last", "_law_turn", "_law_held", "_law_cell", "_law_entry", "_law_begin"] "_law_after" (defScope (top 124)) f cdv Ar outer s H E)
      [some (rLi K [rLN K N]), some (is (.int n)), some (rLi K (cs.map rC)), some (rLs K x), some (is (.int p)), some (is (.ref q)), some (rLs K (itr (rnd N n cs) m x)), o7, o8, o9, o10, none] [(q, oLi ((way (rnd N n cs) x m).map (rLs K)))] ((defBody (top 124)).drop 2) (retD (rLs K (itr (rnd N n cs) p x)) []) := by
    intro m hm hnd hor o7 o8 o9 o10
    have hwl : (way (rnd N n cs) x m).length = m := way_len
    refine dss_freeL 5 ?_
    -- if len(_law_way) == _law_exponent:
    refine dss_when (k := decide (m = p)) (dt_eq (dt_cmp od_eqI (de_bi ca_lenL T.n_len boot_len (da_cons (de_var 5) da_nil)) (de_var 4)) (by rw [List.length_map, hwl]; exact decide_eq_decide.mpr Int.ofNat_inj)) (fun hc => ?_) (fun hc => ?_)
    · have hc := of_decide_eq_true hc
      subst hc
      exact dss_ret (de_var 6) (rt_same)
    · have hc := of_decide_eq_false hc
      have hin : itr (rnd N n cs) m x ∈ way (rnd N n cs) x m := hor.elim id fun z => absurd z hc
      obtain ⟨b, hb, hbe⟩ := List.mem_map.mp hin
      have hb := List.mem_range.mp hb
      -- _law_begin = _law_way.index(_law_last)
      refine dss_set 11 (P := is (.int b)) (de_lindexD (z := lD (itr (rnd N n cs) b x)) b hr dt_lss (dt_ls (vs := itr (rnd N n cs) m x)) (sh_lDs _) (sh_lD _) (by rw [List.getElem?_map, way_at hb]; rfl) (by rw [hbe, eqv_lD]; simp) (fun i z hi hz => ?_) (de_var 5) (de_var 6)) ?_ sc_law_after.nd
      · rw [List.getElem?_map, way_at (by omega)] at hz
        cases hz
        rw [eqv_lD, decide_eq_false]
        rw [← hbe]
        intro e
        have a1 : (way (rnd N n cs) x m)[i]'(by omega) = itr (rnd N n cs) i x := by
          have := way_at (f := rnd N n cs) (x := x) (k := m) (i := i) (by omega)
          rw [List.getElem?_eq_getElem (by omega)] at this
          exact Option.some.inj this
        have a2 : (way (rnd N n cs) x m)[b]'(by omega) = itr (rnd N n cs) b x := by
          have := way_at (f := rnd N n cs) (x := x) (k := m) (i := b) (by omega)
          rw [List.getElem?_eq_getElem (by omega)] at this
          exact Option.some.inj this
        have i1 := hnd.idxOf_getElem i (by omega)
        have i2 := hnd.idxOf_getElem b (by omega)
        rw [a1] at i1
        rw [a2, ← e] at i2
        have := i1.symm.trans i2
        omega
      have hd : ((b : Int) + ((p : Int) - b) % ((m : Int) - b)) = ((b + (p - b) % (m - b) : Nat) : Int) := by
        have e1 : ((p : Int) - b) = ((p - b : Nat) : Int) := by omega
        have e2 : ((m : Int) - b) = ((m - b : Nat) : Int) := by omega
        rw [e1, e2, ← Int.natCast_emod]
        omega
      have hlt : b + (p - b) % (m - b) < m := by
        have := Nat.mod_lt (p - b) (show 0 < m - b by omega)
        omega
      have hfin : itr (rnd N n cs) p x = itr (rnd N n cs) (b + (p - b) % (m - b)) x := itr_cyc hb (by omega) hbe.symm
      -- return _law_way[_law_begin + int(_law_exponent - _law_begin) % (len(_law_way) - _law_begin)]
      refine dss_ret (de_ixL (i := (b : Int) + ((p : Int) - b) % ((m : Int) - b)) (de_var 5) (de_bin od_add (de_var 11) (de_bin (od_mod (j := (m : Int) - b) (by omega)) (de_ty ca_int T.n_int boot_int (da_cons (de_bin od_sub (de_var 4) (de_var 11)) da_nil)) (de_bin od_sub (de_eq (de_bi ca_lenL T.n_len boot_len (da_cons (de_var 5) da_nil)) (by rw [List.length_map, hwl])) (de_var 11)))) (atI_k (b + (p - b) % (m - b)) ?_ hd)) (rt_same)
      rw [List.getElem?_map, way_at hlt, ← hfin]
      rfl
  -- for _law_turn in range(257):
  refine dss_for (Iv := fun m G W => ∃ o7 o8 o9 o10, m ≤ p ∧ (way (rnd N n cs) x m).Nodup ∧ G = [some (rLi K [rLN K N]), some (is (.int n)), some (rLi K (cs.map rC)), some (rLs K x), some (is (.int p)), some (is (.ref q)), some (rLs K (itr (rnd N n cs) m x)), o7, o8, o9, o10, none] ∧ W = [(q, oLi ((way (rnd N n cs) x m).map (rLs K)))]) (di_range1 (n := 257) T.n_range (da_cons de_int da_nil) (by decide)) (fun P hP => (dg_name 7 sc_law_after.nd)) ⟨_, _, _, _, Nat.zero_le _, List.nodup_nil, rfl, rfl⟩ (fun m P G1 W1 hP hI => ?_) (fun G1 W1 hI => ?_)
  · obtain ⟨o7, o8, o9, o10, hm, hnd, rfl, rfl⟩ := hI
    have hwl : (way (rnd N n cs) x m).length = m := way_len
    have hm256 := hpg m hnd
    -- if _law_last in _law_way or len(_law_way) == _law_exponent:
    refine dss_when (k := decide (itr (rnd N n cs) m x ∈ way (rnd N n cs) x m) || decide (m = p)) (dt_of (dw_or (dt_eq (dt_cmp (od_inDO List.mem_cons_self hr (dt_ls (vs := itr (rnd N n cs) m x)) dt_lss (sh_lD _) (sh_lDs _)) (de_var 6) (de_var 5)) (by rw [any_lD])) fun _ => (dw_or1 (dt_eq (dt_cmp od_eqI (de_lenO List.mem_cons_self T.n_len (da_cons (de_var 5) da_nil)) (de_var 4)) (by rw [List.length_map, hwl]; exact decide_eq_decide.mpr Int.ofNat_inj))))) (fun hc => ?_) (fun hc => ?_)
    · refine dss_brk (fin m hm hnd ?_ _ _ _ _)
      rw [Bool.or_eq_true, decide_eq_true_eq, decide_eq_true_eq] at hc
      exact hc
    · rw [Bool.or_eq_false_iff, decide_eq_false_iff_not, decide_eq_false_iff_not] at hc
      obtain ⟨hc1, hc2⟩ := hc
      have lx := itl m
      have wsn := way_snoc (f := rnd N n cs) (x := x) (k := m)
      have nd2 := wn hnd hc1
      have hr1 := hrnd m
      generalize hy : itr (rnd N n cs) m x = y at *
      -- _law_way.append(_law_last)
      refine dss_expr (P := is .non) (dx_append1 (P := rLs K y) (de_var 5) (de_var 6) (by rw [List.length_map, hwl]; omega)) ?_
      -- _law_held = {}
      refine dss_setN 8 dn_dict0 (fun r => ?_) sc_law_after.nd
      -- for _law_cell, _law_entry in zip(_law_cells_here, _law_last):
      refine dss_forM (xs := cs.zip y) (p := fun p => rTu K [rC p.1, rI p.2]) (up := fun p G => (G.set 9 (some (rC p.1))).set 10 (some (rI p.2))) (Iv := fun t G W => (∃ o9 o10, G = [some (rLi K [rLN K N]), some (is (.int n)), some (rLi K (cs.map rC)), some (rLs K x), some (is (.int p)), some (is (.ref q)), some (rLs K y), some P, some (is (.ref r)), o9, o10, none]) ∧ W = [(r, oDi (dz (cs.take t) (y.take t))), (q, oLi ((way (rnd N n cs) x m).map (rLs K) ++ [rLs K y]))]) (di_eq (di_zip T.n_zip (de_var 2) (de_var 6)) (zp_map rC rI cs y)) (fun p hp => (dg_tup (dgs_cons (dg_name 9 sc_law_after.nd) (dgs_cons (dg_name 10 sc_law_after.nd) dgs_nil)))) ⟨⟨_, _, rfl⟩, rfl⟩ (fun t pr G1 W1 hp hI => ?_) (fun G1 W1 hI => ?_)
      · obtain ⟨⟨o9, o10, rfl⟩, rfl⟩ := hI
        obtain ⟨c, v⟩ := pr
        -- _law_held[_law_cell] = _law_entry
        refine dss_dput (ky := ck c) hr List.mem_cons_self (de_var 8) (de_var 9) (de_var 10) (Nat.le_trans dz_len (by have := List.length_take_le' t cs; omega)) (dss_nil ⟨⟨_, _, rfl⟩, ?_⟩)
        rw [putO_hd]
        have := dz_snoc nd hp
        show [(r, oDi (putP (dz (cs.take t) (y.take t)) (ck c) (is (.int v)))), _] = _
        rw [this]
      · obtain ⟨⟨o9, o10, rfl⟩, rfl⟩ := hI
        have ezl : (cs.zip y).length = cs.length := by rw [List.length_zip]; omega
        have e1 : cs.take cs.length = cs := List.take_length
        have e2 : y.take cs.length = y := by rw [List.take_of_length_le (by omega)]
        rw [ezl, e1, e2]
        -- _law_last = _law_near(_law_plan_here, _law_size, _law_cells_here, _law_held, False)
        refine dss_set 6 (P := rLs K (rnd N n cs y)) (dx_call (W1 := [(r, oDi (dz cs (rnd N n cs y))), (q, oLi ((way (rnd N n cs) x m).map (rLs K) ++ [rLs K y]))]) (fn_law_near T (q := r) (vs := y) h nd (by omega) hz him) hr (da_cons (de_var 0) (da_cons (de_var 1) (da_cons (de_var 2) (da_cons (de_var 8) (da_cons de_bl da_nil))))) (fun p hp => by rw [List.mem_singleton.mp hp]; exact List.mem_cons_self) (by simp) rfl rfl (fun c G s H S a C hC => ?_)) (dss_drop1 (dss_nil ?_)) sc_law_after.nd
        · rcases List.mem_cons.mp hC with z | z
          · exact .inl (by rw [z]; exact List.mem_cons_self)
          · refine .inr ⟨List.mem_cons_of_mem _ z, fun y => ?_⟩
            have ea : a = r := by simpa [inO] using y
            have n2 := (List.nodup_cons.mp S.nd).1
            exact n2 (List.mem_map.mpr ⟨_, z, ea⟩)
        · exact ⟨some P, some (is (.ref r)), o9, o10, by omega, nd2, by rw [hr1]; rfl, by rw [wsn, List.map_append]; rfl⟩
  · obtain ⟨o7, o8, o9, o10, hm, hnd, rfl, rfl⟩ := hI
    have := hpg _ hnd
    have e : (rgV 0 (257 : Int).toNat).length = 257 := rg_len
    omega
end
end
end SQ
end
section
set_option maxHeartbeats 400000
namespace SQ
open PySem PySem.Spec PyProof.Rows L2 StX ClX
noncomputable section
section
variable {X : Cx} {G : Gm} {W : Ow} {P1 P2 : VP} {d : PyData} {ds : List PyData} {k : Nat}
theorem op_inDT (hu : X.A.units + 65 < cLine) : OpR X (compareOp .In) (fun x y H Q => ∃ d ds, Dp X.K H x d ∧ Dp X.K H y (.tuple ds) ∧ SeqAt.shaped d = true ∧ SeqAt.shaped (.tuple ds) = true ∧ Q (.bl (ds.any fun z => PyData.eqv z d)) H) := by
  intro pins s σ H x y v u Q I rx ry h
  obtain ⟨d, ds, hd, he, sd, se, q⟩ := h
  obtain ⟨as, r1⟩ := Dp.reads I d x v hd rx
  obtain ⟨bs, r2⟩ := Dp.reads I (.tuple ds) y u he ry
  exact SeqAt.in_tuple_reads r2 r1 (SeqAt.canLay_of_shaped se) (SeqAt.canLay_of_shaped sd) (room_in_shaped sd hu) ⟨.bl _, H, I, rfl, q⟩
theorem od_inDT (hr : Room k X.A) (h1 : Dt X.K P1 d) (h2 : Dt X.K P2 (.tuple ds)) (s1 : SeqAt.shaped d = true) (s2 : SeqAt.shaped (.tuple ds) = true) : OpD X W (compareOp .In) P1 P2 (is (.bl (ds.any fun z => PyData.eqv z d))) :=
  ⟨_, op_inDT (by have := hr.un; omega), fun c G s H v1 v2 Q S b1 b2 q => ⟨d, ds, Dp.mono vis_sub (h1 _ _ b1), Dp.mono vis_sub (h2 _ _ b2), s1, s2, q _ H (Same.refl H) bx_is⟩⟩
end
theorem sh_css (ts : List (List Cell)) : SeqAt.shaped (.list (ts.map csD)) = true := by
  refine sh_of (n := 7) ?_ ?_ (by decide)
  · rw [PyData.canLay0]
    exact layAll csD_lay ts
  · rw [PyData.depth]
    have := depAll csD_dep ts
    omega
theorem ne_any (d : Cell) (ts : List (List Cell)) : (!PyData.eqv (.list ((ts.filter fun t => decide (d ∈ t)).map csD)) (.list [])) = ts.any fun t => decide (d ∈ t) := by
  induction ts with
  | nil => rfl
  | cons t ts ih =>
    by_cases h : d ∈ t
    · rw [List.filter_cons_of_pos (by simpa using h), List.any_cons, decide_eq_true h, Bool.true_or]
      rfl
    · rw [List.filter_cons_of_neg (by simpa using h), List.any_cons, decide_eq_false h, Bool.false_or]
      exact ih
def msP (N : LN) (n : Int) (c : Cell) (p : Nat) : List Int := rep (movK [N] (kd n c.1 c.2)) p
/-- what the mathematics tells of a plan, a size, a cell and a power -/
structure LawOk (N : LN) (n : Int) (c : Cell) (p : Nat) : Prop where
  mv : ∀ k ∈ kindL, MvOk (movK [N] k) ∧ (movK [N] k).length ≤ 256
  gp : szIn (falL [N]) n = false
  kd : ∀ d ∈ orb n c.1 c.2, kd n d.1 d.2 = kd n c.1 c.2
  ln : (msP N n c p).length = 2 ^ (orb n c.1 c.2).length
  ne : ∀ e, e < (orb n c.1 c.2).length → ∀ ct ∈ lcs (msP N n c p) e, bts (ct : Int) ≠ []
  sm : ∀ e, e < (orb n c.1 c.2).length → lcs (msP N n c p) e ≠ []
  rb : ∀ e, e < (orb n c.1 c.2).length → ∀ k ∈ bts (rbF (msP N n c p) e (msP N n c p).length), k < (orb n c.1 c.2).length
  rch : ∀ d ∈ orb n c.1 c.2, rchC (orb n c.1 c.2) (msP N n c p) ((orb n c.1 c.2).idxOf d) = ((List.range (orb n c.1 c.2).length).filter fun k => (fml (orb n c.1 c.2) (msP N n c p) k).any fun t => decide (d ∈ t)).map fun k => (orb n c.1 c.2).getD k (0, 0)
  pg : ∀ x : List Int, x.length = (orb n c.1 c.2).length → (∀ y ∈ x, 0 ≤ y ∧ y < 2) → ∀ k, (way (rnd N n (orb n c.1 c.2)) x k).Nodup → k ≤ 256
  met : ∀ x : List Int, x.length = (orb n c.1 c.2).length → (∀ y ∈ x, 0 ≤ y ∧ y < 2) → (orb n c.1 c.2).map (fun d => metV (orb n c.1 c.2) x (fml (orb n c.1 c.2) (msP N n c p) ((orb n c.1 c.2).idxOf d))) = itr (rnd N n (orb n c.1 c.2)) p x
theorem fml_ok {cs : List Cell} {ms : List Int} {e : Nat} (hl : ms.length = 2 ^ cs.length) (hz : cs.length ≤ 8) (ne : ∀ ct ∈ lcs ms e, bts (ct : Int) ≠ []) (sm : lcs ms e ≠ []) :
    fml cs ms e ≠ [] ∧ (fml cs ms e).length ≤ 256 ∧ ∀ t ∈ fml cs ms e, t ≠ [] ∧ t.length ≤ 8 ∧ ∀ c ∈ t, c ∈ cs := by
  have b2 : ∀ k, k ≤ 8 → 2 ^ k ≤ 256 := by decide +kernel
  have pm : (fml cs ms e).Perm ((lcs ms e).map (tmC cs)) := List.mergeSort_perm _ _
  have e2 : ((2 : Int) ^ cs.length) = ((2 ^ cs.length : Nat) : Int) := by push_cast; rfl
  refine ⟨fun z => ?_, ?_, fun t ht => ?_⟩
  · have := pm.length_eq
    rw [z, List.length_map] at this
    exact sm (List.length_eq_zero_iff.mp this.symm)
  · rw [pm.length_eq, List.length_map]
    have h1 := List.length_filter_le (lcT ms e) (List.range ms.length)
    rw [List.length_range] at h1
    have := b2 _ hz
    show (List.filter _ _).length ≤ _
    omega
  · obtain ⟨ct, hct, rfl⟩ := List.mem_map.mp (pm.mem_iff.mp ht)
    have hlt : ct < 2 ^ cs.length := by
      have := List.mem_range.mp (List.mem_filter.mp hct).1
      omega
    refine ⟨by unfold tmC; simpa using ne ct hct, ?_, fun c hc => ?_⟩
    · unfold tmC
      rw [List.length_map]
      exact List.length_filter_le _ _
    · obtain ⟨k, hk, rfl⟩ := List.mem_map.mp hc
      have hk2 : k < cs.length := bts_lt (Int.natCast_nonneg ct) (by rw [e2]; exact Int.ofNat_lt.mpr hlt) hk
      rw [List.getD_eq_getElem?_getD, List.getElem?_eq_getElem hk2]
      exact List.getElem_mem hk2
section
variable {P : Program} {w : World} {K : PySem.W.Frag} {mg : Str → Option Value} {base : Heap} {A : Ad}
theorem sc_law_right : FnScope ["_law_purl_here", "_law_plan_here", "_law_size", "_law_row", "_law_column", "_law_exponent", "_law_mine", "_law_cells_here", "_law_formulas", "_law_cell", "_law_due", "_law_k", "_law_some", "_law_turn", "_law_content", "_law_formula"] ["_law_purl_here"] (defScope (top 126)) := ⟨rfl, rfl, rfl, by decide +kernel, rfl, by decide +kernel, by decide +kernel⟩
theorem fn_law_right (T : Tx K w mg A) {q : Addr} (hM : ∀ (N : LN) (n : Int) (c : Cell) (p : Nat), N.ok → 1 ≤ n → n ≤ 10 ^ 30 → (0 ≤ c.1 ∧ c.1 < n ∧ 0 ≤ c.2 ∧ c.2 < n) → outN N (far n) = false → p ≤ 10 ^ 30 → LawOk N n c p) :
    FnG P w K mg base "_law_right" 10 [rKT A (is (.ref q))] [(q, oPu)] [(q, oPu)] (is (.bl true)) :=
  fng_of T.d_law_right sc_law_right rfl (fun _ _ _ _ _ _ us hl => match us, hl with | [_], _ => rfl) fun f cdv Ar outer s H E hr => by
  -- _law_plan_here, _law_size = (_law_plan(_law_purl_here, 1, 3), _law_far(_law_purl_here))
  refine dss_asg (de_tup (da_cons (de_callO (fn_law_plan T) hr (da_cons (de_un (de_var 0)) (da_cons de_int (da_cons de_int da_nil)))) (da_cons (de_callO (fn_law_far T) hr (da_cons (de_un (de_var 0)) da_nil)) da_nil))) (dg_tup (dgs_cons (dg_name 1 sc_law_right.nd) (dgs_cons (dg_name 2 sc_law_right.nd) dgs_nil))) ?_
  refine dss_exE (R := fun N : {N : LN // N.ok} => rLi K [rLN K N.1]) 1 ?_
  rintro ⟨N, hN⟩
  refine dss_exZ 2 fun n hn => ?_
  dsimp only
  -- _law_row, _law_column = _law_spot(_law_purl_here, _law_size)
  refine dss_asg (P := rTu K [rZ (inN n), rZ (inN n)]) (de_to (de_callO (fn_law_spot T hn.1) hr (da_cons (de_un (de_var 0)) (da_cons (de_var 2) da_nil))) fun v H h => ?_) (dg_tup (dgs_cons (dg_name 3 sc_law_right.nd) (dgs_cons (dg_name 4 sc_law_right.nd) dgs_nil))) ?_
  · obtain ⟨c, hc⟩ := bx_e h
    obtain ⟨t, us, rfl, hq, r⟩ := hc.here
    cases r with
    | cons r1 r => cases r with
      | cons r2 r =>
        cases r
        refine bx_tu hq (.cons ?_ (.cons ?_ .nil))
        · rw [r1.eq]
          exact bx_zI ⟨c.2.1, c.2.2.1⟩
        · rw [r2.eq]
          exact bx_zI ⟨c.2.2.2.1, c.2.2.2.2⟩
  refine dss_exZ 3 fun r hr1 => dss_exZ 4 fun cl hc1 => ?_
  have hin : 0 ≤ r ∧ r < n ∧ 0 ≤ cl ∧ cl < n := ⟨hr1.1, hr1.2, hc1.1, hc1.2⟩
  -- if _law_outfar(_law_plan_here, _law_size):
  refine dss_when (k := outN N (far n)) (dt_val (de_call (fn_law_outfar T hN (by omega)) hr (da_cons (de_var 1) (da_cons (de_var 2) da_nil)))) (fun _ => dss_ret de_bl (rt_same)) (fun hout => ?_)
  have tail : ∀ p : Nat, p ≤ 10 ^ 30 → DSs (Xb P w K mg base ["_law_purl_here", "_law_plan_here", "_law_size", "_law_row", "_law_column", "_law_exponent", "_law_mine", "_law_cells_here", "_law_formulas", "_law_cell", "_law_due", "_law_k", "_law_some", "_law_turn", "_law_content", "_law_formula"] "_law_right" (defScope (top 126)) f cdv Ar outer s H E)
      [some (rKT A (is (.ref q))), some (rLi K [rLN K N]), some (is (.int n)), some (is (.int r)), some (is (.int cl)), some (is (.int p)), none, none, none, none, none, none, none, none, none, none] [(q, oPu)] ((defBody (top 126)).drop 5) (retD (is (.bl true)) [(q, oPu)]) := by
    intro p hp
    have L := hM N n (r, cl) p hN hn.1 hn.2 hin hout hp
    obtain ⟨mv, gp, kde, ln, ne, sm, rb, rch, pg, met⟩ := L
    dsimp only at kde ln ne sm rb rch pg met
    have nd := orb_nd n r cl
    have hz := orb_len n r cl
    have him := orb_im (n := n) (i := r) (j := cl)
    have hoo : ∀ d ∈ orb n r cl, orb n d.1 d.2 = orb n r cl := fun d hd => orb_orb hd
    have hit : ∀ d ∈ orb n r cl, 0 ≤ d.1 ∧ d.1 < n ∧ 0 ≤ d.2 ∧ d.2 < n := fun d hd => orb_in hin (orb_mem.mp hd)
    have hms : ∀ d ∈ orb n r cl, rep (movK [N] (kd n d.1 d.2)) p = msP N n (r, cl) p := fun d hd => by rw [kde d hd]; rfl
    have hix : ∀ d ∈ orb n r cl, (orb n r cl).idxOf d < (orb n r cl).length := fun d hd => List.idxOf_lt_length_iff.mpr hd
    have res : ∀ d ∈ orb n r cl, MtG P w K mg base A.action "result" 5 [rAc K A (fun k => rep (movK [N] k) p) (falL [N]), is (.int n), rC d] [] [] (rTu K ((fml (orb n r cl) (msP N n (r, cl) p) ((orb n r cl).idxOf d)).map (rCs K))) := fun d hd => by
      have z := mt_result (P := P) (base := base) T (mf := fun k => rep (movK [N] k) p) (ts := falL [N]) (n := n) (c := d) hn (hit d hd) gp (by rw [hoo d hd, hms d hd]; exact ln) (by rw [hoo d hd, hms d hd]; exact ne _ (hix d hd))
      rw [hoo d hd, hms d hd] at z
      exact z
    have rea : ∀ d ∈ orb n r cl, MtG P w K mg base A.action "reaches" 5 [rAc K A (fun k => rep (movK [N] k) p) (falL [N]), is (.int n), rC d] [] [] (rCs K (rchC (orb n r cl) (msP N n (r, cl) p) ((orb n r cl).idxOf d))) := fun d hd => by
      have z := mt_reaches (P := P) (base := base) T (mf := fun k => rep (movK [N] k) p) (ts := falL [N]) (n := n) (c := d) hn (hit d hd) gp (by rw [hoo d hd, hms d hd]; exact ln) (by rw [hoo d hd, hms d hd]; exact rb _ (hix d hd))
      rw [hoo d hd, hms d hd] at z
      exact z
    have orbF := fn_law_orbit (P := P) (base := base) T (n := n) (r := r) (c := cl)
    clear kde hoo hms
    generalize msP N n (r, cl) p = ms at *
    generalize orb n r cl = cs at *
    -- _law_mine = Action.of(Program.read(_law_text(_law_plan_here))).times(_law_exponent)
    refine dss_set 6 (P := rAc K A (fun k => rep (movK [N] k) p) (falL [N])) (de_meth T.c_Action (mt_times T hp mv) hr (de_cmeth (cm_of T (Ns := [N]) (fun M hM => by rw [List.mem_singleton.mp hM]; exact hN)) hr (de_gc T.v_Action) (da_cons (de_kt 0 (de_cmeth (cm_read T hN) hr (de_gc T.v_Program) (da_cons (de_call (fn_law_text T hN) hr (da_cons (de_var 1) da_nil)) da_nil))) da_nil)) (da_cons (de_kt 0 (de_var 5)) da_nil)) ?_ sc_law_right.nd
    -- _law_cells_here = _law_orbit(_law_size, _law_row, _law_column)
    refine dss_set 7 (de_call orbF hr (da_cons (de_var 2) (da_cons (de_var 3) (da_cons (de_var 4) da_nil)))) ?_ sc_law_right.nd
    -- _law_formulas = [_law_mine.result(_law_size, _law_cell) for _law_cell in _law_cells_here]
    refine dss_set 8 (de_lcA (own := [("_law_cell", 9)]) (js := [9]) (xs := cs) (p := rC) (r := fun d => rTu K ((fml cs ms (cs.idxOf d)).map (rCs K))) (up := fun d G => G.set 9 (some (rC d))) sc_law_right.nd (di_list (de_var 7)) (blk_of (by kernel_rfl)) (by simp) (by omega) (fun s H C cl fp x hx => (dg_name 9 sc_law_right.nd)) (fun s H C cl fp d hd => (de_meth T.c_Action (res d hd) hr (de_var 6) (da_cons (de_var 2) (da_cons (de_var 9) da_nil))))) ?_ sc_law_right.nd
    -- for _law_cell in _law_cells_here:
    refine dss_forM (xs := cs) (p := rC) (up := fun d G => G.set 9 (some (rC d))) (Iv := fun m G W => (∃ o9 o10, G = [some (rKT A (is (.ref q))), some (rLi K [rLN K N]), some (is (.int n)), some (is (.int r)), some (is (.int cl)), some (is (.int p)), some (rAc K A (fun k => rep (movK [N] k) p) (falL [N])), some (rLi K (cs.map rC)), some (rLi K (cs.map fun d => rTu K ((fml cs ms (cs.idxOf d)).map (rCs K)))), o9, o10, none, none, none, none, none]) ∧ W = [(q, oPu)]) (di_list (de_var 7)) (fun d hd => (dg_name 9 sc_law_right.nd)) ⟨⟨_, _, rfl⟩, rfl⟩ (fun m d G1 W1 hd hI => ?_) (fun G1 W1 hI => ?_)
    · obtain ⟨⟨o9, o10, rfl⟩, rfl⟩ := hI
      have hdm := List.mem_of_getElem? hd
      -- _law_due = [..]
      refine dss_setLc 10 (own := [("_law_k", 11)]) (js := [11]) (xs := List.range cs.length) (p := fun (k : Nat) => is (.int (0 + (k : Nat)))) (f := fun k => (fml cs ms k).any fun t => decide (d ∈ t)) (r := fun k => rC (cs.getD k (0, 0))) (up := fun k G => G.set 11 (some (is (.int (0 + (k : Nat)))))) sc_law_right.nd (di_range1 (n := (cs.length : Int)) T.n_range (da_cons (de_eq (de_bi ca_lenL T.n_len boot_len (da_cons (de_var 7) da_nil)) (by rw [List.length_map])) da_nil) (by omega)) ⟨blk_of (by kernel_rfl), by simp, by rw [List.length_range]; omega, fun s H C cl fp x hx => dg_name 11 sc_law_right.nd, fun s H C cl fp k hk => ?_, fun s H C cl fp k hk _ => ?_⟩ ?_
      · have hk := List.mem_range.mp hk
        have ez : (0 : Int) + (k : Nat) = (k : Nat) := by omega
        obtain ⟨f1, f2, f3⟩ := fml_ok ln hz (ne k hk) (sm k hk)
        simp only [ez]
        refine dts_one (dt_eq (dt_cmp (od_neD (d := .list (((fml cs ms k).filter fun t => decide (d ∈ t)).map csD)) (d2 := .list []) hr (dt_li (Ps := ((fml cs ms k).filter fun t => decide (d ∈ t)).map (rCs K)) (paired_map fun t _ => dt_csT)) (dt_li (Ps := []) .nil) (sh_css _) (sh_css [])) (de_lcF (own := [("_law_some", 12)]) (js := [12]) (xs := fml cs ms k) (p := rCs K) (f := fun t => decide (d ∈ t)) (r := rCs K) (up := fun t G => G.set 12 (some (rCs K t))) sc_law_right.nd (di_tup (de_ixL (i := (k : Nat)) (P := rTu K ((fml cs ms k).map (rCs K))) (de_var 8) (de_var 11) (atI_k k ?_))) (blk_of (by kernel_rfl)) (by simp) (by omega) (fun s H C cl fp x hx => (dg_name 12 sc_law_right.nd)) (fun s H C cl fp t ht => dt_eq (dt_cmp (od_inDT hr (dt_rC (c := d)) (dt_csT (cs := t)) (sh_cD d) (sh_csD t)) (de_var 9) (de_var 12)) (any_cD d t)) (fun s H C cl fp t ht _ => (de_var 12))) (de_lst da_nil)) (ne_any _ _))
        rw [List.getElem?_map, List.getElem?_eq_getElem hk, Option.map_some, nd.idxOf_getElem k hk]
      · have hk := List.mem_range.mp hk
        have ez : (0 : Int) + (k : Nat) = (k : Nat) := by omega
        simp only [ez]
        refine de_ixL (i := (k : Nat)) (de_var 7) (de_var 11) (atI_k k ?_)
        rw [List.getElem?_map, List.getElem?_eq_getElem hk, List.getD_eq_getElem?_getD, List.getElem?_eq_getElem hk]
        rfl
      -- if _law_mine.reaches(_law_size, _law_cell) != tuple(_law_due): return False
      refine dss_ifF (dt_eq (dt_cmp (od_neD hr (dt_csT (cs := rchC cs ms (cs.idxOf d))) (dt_csT (cs := ((List.range cs.length).filter fun k => (fml cs ms k).any fun t => decide (d ∈ t)).map fun k => cs.getD k (0, 0))) (sh_csD _) (sh_csD _)) (de_meth T.c_Action (rea d hdm) hr (de_var 6) (da_cons (de_var 2) (da_cons (de_var 9) da_nil))) (de_eq (de_ty ca_tupL T.n_tuple boot_tuple (da_cons (de_var 10) da_nil)) (by rw [List.map_map]; rfl))) (by rw [eqv_csD, decide_eq_true (rch d hdm)]; rfl)) ?_
      exact dss_nil ⟨⟨_, _, rfl⟩, rfl⟩
    · obtain ⟨⟨o9, o10, rfl⟩, rfl⟩ := hI
      -- for _law_turn in range(24):
      refine dss_for (Iv := fun m G W => (∃ o9 o10 o13 o14, G = [some (rKT A (is (.ref q))), some (rLi K [rLN K N]), some (is (.int n)), some (is (.int r)), some (is (.int cl)), some (is (.int p)), some (rAc K A (fun k => rep (movK [N] k) p) (falL [N])), some (rLi K (cs.map rC)), some (rLi K (cs.map fun d => rTu K ((fml cs ms (cs.idxOf d)).map (rCs K)))), o9, o10, none, none, o13, o14, none]) ∧ W = [(q, oPu)]) (di_range1 (n := 24) T.n_range (da_cons de_int da_nil) (by decide)) (fun P hP => (dg_name 13 sc_law_right.nd)) ⟨⟨_, _, _, _, rfl⟩, rfl⟩ (fun m Pm G1 W1 hP hI => ?_) (fun G1 W1 hI => ?_)
      · obtain ⟨⟨o9, o10, o13, o14, rfl⟩, rfl⟩ := hI
        -- _law_content = [_law_dig(_law_purl_here, 2) for _law_cell in _law_cells_here]
        refine dss_set 14 (de_lcA (own := [("_law_cell", 9)]) (js := [9]) (xs := cs) (p := rC) (r := fun _ => rZ (dgP 2)) (up := fun d G => G.set 9 (some (rC d))) sc_law_right.nd (di_list (de_var 7)) (blk_of (by kernel_rfl)) (by simp) (by omega) (fun s H C cl fp x hx => (dg_name 9 sc_law_right.nd)) (fun s H C cl fp d hd => (de_callO (fn_law_dig T (k := 2) (by decide)) hr (da_cons (de_un (de_var 0)) (da_cons de_int da_nil))))) ?_ sc_law_right.nd
        refine dss_exC (R := fun x : {x : List Int // x.length = cs.length ∧ ∀ y ∈ x, 0 ≤ y ∧ y < 2} => rLs K x.1) 14 (fun v H h => ?_) ?_
        · have er : (cs.map fun _ => rZ (dgP 2)) = List.replicate cs.length (rE fun i : {i : Int // dgP 2 i} => is (.int i.1)) := List.map_const' ..
          have h : Bx (rLi K (cs.map fun _ => rZ (dgP 2))) v H := h
          rw [er] at h
          obtain ⟨ys, hl, hb⟩ := li_e h
          refine ⟨⟨ys.map fun i : {i : Int // dgP 2 i} => i.1, by rw [List.length_map, hl], fun y hy => ?_⟩, ?_⟩
          · obtain ⟨z, _, rfl⟩ := List.mem_map.mp hy
            exact z.2
          · exact (show rLs K (ys.map fun i : {i : Int // dgP 2 i} => i.1) = rLi K (ys.map fun i => is (.int i.1)) by unfold rLs; rw [List.map_map]; rfl) ▸ hb
        rintro ⟨x, hx1, hx2⟩
        dsimp only
        -- _law_due = _law_after(..)
        refine dss_set 10 (de_call (fn_law_after T hN nd hx1.symm hz him (pg x hx1 hx2)) hr (da_cons (de_var 1) (da_cons (de_var 2) (da_cons (de_var 7) (da_cons (de_var 14) (da_cons (de_var 5) da_nil)))))) ?_ sc_law_right.nd
        -- if [..] != _law_due: return False
        refine dss_ifF (dt_eq (dt_cmp (od_neD hr (dt_ls (vs := cs.map fun d => metV cs x (fml cs ms (cs.idxOf d)))) (dt_ls (vs := itr (rnd N n cs) p x)) (sh_lD _) (sh_lD _)) (de_eq (de_lcA (own := [("_law_formula", 15)]) (js := [15]) (xs := cs) (p := fun d => rTu K ((fml cs ms (cs.idxOf d)).map (rCs K))) (r := fun d => rI (metV cs x (fml cs ms (cs.idxOf d)))) (up := fun d G => G.set 15 (some (rTu K ((fml cs ms (cs.idxOf d)).map (rCs K))))) sc_law_right.nd (di_list (de_var 8)) (blk_of (by kernel_rfl)) (by simp) (by omega) (fun s H C cl fp x hx => (dg_name 15 sc_law_right.nd)) (fun s H C cl fp d hd => ?_)) (by unfold rLs; rw [List.map_map]; rfl)) (de_var 10)) (by rw [eqv_lD, decide_eq_true (met x hx1 hx2)]; rfl)) ?_
        · obtain ⟨f1, f2, f3⟩ := fml_ok ln hz (ne _ (hix d hd)) (sm _ (hix d hd))
          exact de_call (fn_law_met T f1 f2 f3 hx1) hr (da_cons (de_var 15) (da_cons (de_var 7) (da_cons (de_var 14) da_nil)))
        · exact dss_nil ⟨⟨_, _, _, _, rfl⟩, rfl⟩
      · obtain ⟨⟨o9, o10, o13, o14, rfl⟩, rfl⟩ := hI
        -- return True
        exact dss_ret de_bl rt_same
  -- _law_exponent = _law_dig(_law_purl_here, 10 ** 15) * 10 ** 15 + _law_dig(_law_purl_here, 10 ** 15)
  refine dss_set 5 (P := rZ fun z => 0 ≤ z ∧ z ≤ 10 ^ 30) (de_bin (od_ZZ (g := fun x y => x + y) (p := fun x => 0 ≤ x ∧ x ≤ (10 ^ 15 - 1) * 10 ^ 15) (q := dgP (10 ^ (15 : Int).toNat)) (fun _ _ _ _ => od_add) (fun x y hx hy => by
    have h1 := hy.1
    have h2 := hy.2
    have h3 : (10 ^ (15 : Int).toNat : Int) = 10 ^ 15 := rfl
    rw [h3] at h2
    omega)) (de_bin (od_Z1 (g := fun x => x * 10 ^ (15 : Int).toNat) (p := dgP (10 ^ (15 : Int).toNat)) (fun x _ => od_mul (.inr (by decide))) (fun x hx => by
    have h1 := hx.1
    have h2 := hx.2
    have h3 : (10 ^ (15 : Int).toNat : Int) = 10 ^ 15 := rfl
    rw [h3] at h2 ⊢
    omega)) (de_callO (fn_law_dig T (k := 10 ^ (15 : Int).toNat) (by decide)) hr (da_cons (de_un (de_var 0)) (da_cons (de_bin (od_pow (by decide)) de_int de_int) da_nil))) (de_bin (od_pow (by decide)) de_int de_int)) (de_callO (fn_law_dig T (k := 10 ^ (15 : Int).toNat) (by decide)) hr (da_cons (de_un (de_var 0)) (da_cons (de_bin (od_pow (by decide)) de_int de_int) da_nil)))) ?_ sc_law_right.nd
  refine dss_exZ 5 fun z hz => ?_
  obtain ⟨p, rfl⟩ : ∃ p : Nat, z = (p : Nat) := ⟨z.toNat, by omega⟩
  -- if _law_dig(_law_purl_here, 2) == 0:
  refine dss_ifE (dt_cmpE od_eqZ (de_callO (fn_law_dig T (k := 2) (by decide)) hr (da_cons (de_un (de_var 0)) (da_cons de_int da_nil))) de_int) ?_ (dss_nil (tail p (by omega)))
  -- _law_exponent = 1 + _law_dig(_law_purl_here, 12)
  refine dss_set 5 (P := rZ fun z => 0 ≤ z ∧ z ≤ 10 ^ 30) (de_bin (od_Z2 (g := fun x => 1 + x) (p := dgP 12) (fun x _ => od_add) (fun x hx => by have h1 := hx.1; have h2 := hx.2; omega)) de_int (de_callO (fn_law_dig T (k := 12) (by decide)) hr (da_cons (de_un (de_var 0)) (da_cons de_int da_nil)))) ?_ sc_law_right.nd
  refine dss_exZ 5 fun z hz => ?_
  obtain ⟨p, rfl⟩ : ∃ p : Nat, z = (p : Nat) := ⟨z.toNat, by omega⟩
  exact dss_nil (tail p (by omega))
end
end
end SQ
end
section
set_option maxHeartbeats 400000
namespace SQ
open PySem PySem.Spec PyProof.Rows L2 StX ClX
noncomputable section
section
variable {P : Program} {w : World} {K : PySem.W.Frag} {mg : Str → Option Value} {base : Heap} {A : Ad}
theorem fnn_of {N ps : List Str} {x qual : Str} {k : Nat} {Ps : List VP} {C : OC} {st : Stmt} (T : DefF K mg x qual st) (S : FnScope N ps (defScope st)) (hl : Ps.length = ps.length)
    (hb : ∀ (kV doc pm : Value) (an : Option Addr) (cdv ct : Value) (us : List Value), us.length = ps.length → bindArgs (PySem.W.fnOf qual qual (defArgs st) (defBody st) (defScope st) .none kV doc pm an cdv ct) ⟨us, []⟩ = pure (ps.zip us))
    (hbody : ∀ (f : Addr) (cdv : Value) (A : Around) (outer : List Env) (s : Shared) (H : Hp) (E : XK), Room k (A.deeper (envOfC qual (defScope st) s.heap.objs.size f cdv)) →
      DSs (Xb P w K mg base N qual (defScope st) f cdv A outer s H E) (entry N Ps) [] (defBody st) (retN C)) : FnN P w K mg base x (k + 1) Ps C := by
  obtain ⟨f, fd, hm, F⟩ := T
  refine ⟨f, hm, F.kp, ?_⟩
  have ok : FnOk P w K mg base CX0 (k + 1) f fd ps (SpN Ps C) := by
    refine F.ok S (fun vs H Q E ⟨c, S, _⟩ => by
      have := S.env.1
      rw [List.length_map, List.length_map] at this
      omega) fun cdv A outer s H vs Q E hr h => ?_
    obtain ⟨c, St0, kq⟩ := h
    refine ⟨_, PSs.nox (hbody f cdv A outer s H E hr), c, St0.envOf (entry_ok St0.env), ?_, ?_, ?_, ?_⟩
    · rintro G2 W2 s2 H2 h
      exact h.elim
    · rintro P' G2 W2 s2 v H2 ⟨a, rfl, ha⟩ S2 b
      rw [b.eq]
      exact kq a H2 G2 s2 (S2.drop (fun p hp => by rw [List.mem_singleton.mp hp]; exact ha) (by simp))
    · intro G2 W2 s2 H2 h
      exact h.elim
    · intro G2 W2 s2 H2 h
      exact h.elim
  have z := ok.raw (F.bindsN fun kV doc pm an cdv ct us hu => hb kV doc pm an cdv ct us hu) .nil
  exact z.imp fun vs H Q E h => by rw [List.append_nil]; exact h
theorem dn_to {X : Cx} {G : Gm} {W : Ow} {e : Expr} {C C' : OC} (h : DN X G W e C) (k : ∀ u H, (∀ H', Same H H' → C u H') → ∀ H', Same H H' → C' u H') : DN X G W e C' := PE.to h fun s H Q ⟨c, S, q⟩ => ⟨c, S, fun a H' S' e' n => by
  refine q a H' ⟨S'.env, fun b B hb => ?_, S'.nd, S'.fr, S'.hdA, S'.dj⟩ e' n
  rcases List.mem_cons.mp hb with z | z
  · cases z
    obtain ⟨m, u, y, z⟩ := S'.own _ _ (List.mem_cons_self (a := (a, C)) (l := W))
    exact ⟨m, u, y, k u _ z⟩
  · exact S'.own b B (List.mem_cons_of_mem _ z)⟩
theorem sc_law_purl : FnScope ["_law_script", "_law_spot_here", "_law_mixed", "_law_cell", "_law_own"] ["_law_script", "_law_spot_here"] (defScope (top 101)) := ⟨rfl, rfl, rfl, by decide +kernel, rfl, by decide +kernel, by decide +kernel⟩
theorem cut_ints {xs : List Int} {i j : Option Int} : ∃ ys : List Int, cutV (xs.map V.int) i j = ys.map V.int := ⟨(xs.drop (HT.sIx xs.length 0 i)).take (HT.sIx xs.length xs.length j - HT.sIx xs.length 0 i), by unfold cutV; rw [List.length_map, List.map_take, List.map_drop]⟩
theorem fn_law_purl (T : Tx K w mg A) {xs : List Int} {k : Nat} (hk : k ≤ 100) (hz : xs.length ≤ 1000) : FnN P w K mg base "_law_purl" 1 [rKT A (rSc K xs), is (.int k)] oPu :=
  fnn_of T.d_law_purl sc_law_purl rfl (fun _ _ _ _ _ _ us hl => match us, hl with | [_, _], _ => rfl) fun f cdv Ar outer s H E hr => by
  obtain ⟨y1, e1⟩ := cut_ints (xs := xs) (i := none) (j := some 2)
  obtain ⟨y2, e2⟩ := cut_ints (xs := xs) (i := some (k : Int)) (j := some ((k : Int) + 1))
  have l1 : y1.length ≤ 1000 := by
    have := congrArg List.length e1
    rw [List.length_map] at this
    unfold cutV at this
    rw [List.length_take, List.length_drop, List.length_map] at this
    omega
  have l2 : y2.length ≤ 1000 := by
    have := congrArg List.length e2
    rw [List.length_map] at this
    unfold cutV at this
    rw [List.length_take, List.length_drop, List.length_map] at this
    omega
  -- _law_mixed = 104729 + 61 * _law_spot_here
  refine dss_set 2 (de_bin od_add de_int (de_bin (od_mul (.inl (by decide))) de_int (de_var 1))) ?_ sc_law_purl.nd
  -- for _law_cell in _law_script[:2] + _law_script[_law_spot_here:_law_spot_here + 1]:
  refine dss_forM (xs := y1 ++ y2) (p := rI) (up := fun x G => G.set 3 (some (rI x))) (Iv := fun m G W => (∃ (y : Int) (o3 : Option VP), (0 < m → 0 ≤ y ∧ y < 2147483629) ∧ (0 ≤ y ∧ y < 2147483629) ∧ G = [some (rKT A (rSc K xs)), some (is (.int k)), some (is (.int y)), o3, none]) ∧ W = []) (di_eq (di_list (de_bin (od_cat (Ps := y1.map rI) (Qs := y2.map rI) (by rw [List.length_map, List.length_map]; omega)) (de_eq (de_slSc (de_un (de_var 0)) do_none (do_some de_int)) (by rw [e1, ← map_int_is])) (de_eq (de_slSc (de_un (de_var 0)) (do_some (de_var 1)) (do_some (de_bin od_add (de_var 1) de_int))) (by rw [e2, ← map_int_is])))) (by rw [List.map_append])) (fun x hx => (dg_name 3 sc_law_purl.nd)) ⟨⟨_, _, fun z => absurd z (Nat.lt_irrefl 0), ⟨by omega, by omega⟩, rfl⟩, rfl⟩ (fun m x G1 W1 hx hI => ?_) (fun G1 W1 hI => ?_)
  · obtain ⟨⟨y, o3, _, hy, rfl⟩, rfl⟩ := hI
    -- _law_mixed = int(_law_mixed * 48271 + _law_cell + 7) % 2147483629
    refine dss_set 2 (de_bin (od_mod (j := 2147483629) (by decide)) (de_ty ca_int T.n_int boot_int (da_cons (de_bin od_add (de_bin od_add (de_bin (od_mul (.inr (by decide))) (de_var 2) de_int) (de_var 3)) de_int) da_nil)) de_int) (dss_nil ⟨⟨_, _, fun _ => ⟨Int.emod_nonneg _ (by decide), Int.emod_lt_of_pos _ (by decide)⟩, ⟨Int.emod_nonneg _ (by decide), Int.emod_lt_of_pos _ (by decide)⟩, rfl⟩, rfl⟩) sc_law_purl.nd
  · obtain ⟨⟨y, o3, _, hy, rfl⟩, rfl⟩ := hI
    -- _law_own = _law_script[_law_spot_here] if _law_spot_here < len(_law_script) else 0
    refine dss_set 4 (P := rZ fun _ => True) (de_if (k := decide ((k : Int) < xs.length)) (dt_cmp od_lt (de_var 1) (de_bi ca_lenSc T.n_len boot_len (da_cons (de_un (de_var 0)) da_nil))) (fun h => de_to (de_scIx (i := (k : Nat)) (z := xs.getD k 0) (de_un (de_var 0)) (de_var 1) (atI_k k ?_)) fun v H b => by rw [b.eq]; exact bx_zI trivial) (fun _ => de_to de_int fun v H b => by rw [b.eq]; exact bx_zI trivial)) ?_ sc_law_purl.nd
    · have hl : k < xs.length := by have := of_decide_eq_true h; omega
      rw [List.getElem?_map, List.getElem?_eq_getElem hl, List.getD_eq_getElem?_getD, List.getElem?_eq_getElem hl]
      rfl
    refine dss_exZ 4 fun o _ => ?_
    -- return [_law_mixed, abs(_law_own) if abs(_law_own) >= 10 ** 18 else 0]
    refine dss_retNew (dn_to (C := oLi [is (.int y), rZ fun z => 0 ≤ z]) (dn_lst (da_cons (de_var 2) (da_cons (de_if (k := decide ((10 : Int) ^ (18 : Int).toNat ≤ (if o < 0 then -o else o))) (dt_cmp od_ge (de_bi ca_abs T.n_abs boot_abs (da_cons (de_var 4) da_nil)) (de_bin (od_pow (by decide)) de_int de_int)) (fun _ => de_to (de_bi ca_abs T.n_abs boot_abs (da_cons (de_var 4) da_nil)) fun v H b => by rw [b.eq]; exact bx_zI (by split <;> omega)) (fun _ => de_to de_int fun v H b => by rw [b.eq]; exact bx_zI (Int.le_refl 0))) da_nil))) fun u H h H' e' => ?_)
    obtain ⟨vs, rfl, r⟩ := h H' e'
    cases r with
    | cons r1 r => cases r with
      | cons r2 r =>
        cases r
        obtain ⟨z, hz, rfl⟩ := bx_z r2
        rw [r1.eq]
        exact ⟨y, z, rfl, hy.1, hy.2, hz⟩
/-- a call with a new object, and what a slot says besides -/
theorem de_callNK {X : Cx} {G : Gm} {W : Ow} {P0 R : VP} {C C' : OC} {e : Expr} {x : Str} {p pos : Pos} {k L : Nat} (i : Nat) (F : ∀ q, FnG X.prog X.w X.K X.mg X.base x L [rKT A (is (.ref q))] [(q, C)] [(q, C')] R) (hr : Room k X.A) (ha : DN X G W e C) (hG : G[i]? = some (some (rKT A P0)) := by rfl) (hl : L ≤ k := by decide) (hg : Gl X x := by rfl) (hd : (x == ("__debug__" : Str)) = false := by decide)
    (he : starEach [e] X.env = [(false, eval e X.env)] := by rfl) : DE X G W (.Call (.Name x p) [e] [] pos) R := by
  obtain ⟨f, hm, hk, _⟩ := (F 0).ex
  have Fq : FnR X.prog X.w X.K X.mg X.base CX0 L f (fun vs H Q E => ∃ q, SpF [rKT A (is (.ref q))] [(q, C)] [(q, C')] R vs H Q E) := fun A' outer s H us vs Q E hr e0 r ⟨q, h⟩ => by
    obtain ⟨f2, hm2, _, F2⟩ := (F q).ex
    rw [hm] at hm2
    cases hm2
    exact F2 A' outer s H us vs Q E hr e0 r h
  have hp : PA X [e] (fun s H Q => ∃ c, StOk c G W s H ∧ ∀ r H', StOk c G ((r, C) :: W) s H' → Same (vis c W H) (vis c ((r, C) :: W) H') → ¬ c.hd r → Q [.ref r] H') := PA.to (pa_cons ha pa_nil he) fun s H Q ⟨c, S, kq⟩ => ⟨c, S, fun r H' S' e' n => kq r H' S' e' n⟩
  exact PE.to (pe_callR (Fq.mono hl) hr hg hm hk pass0 hp hd he rfl) fun s H Q ⟨c, S, kq⟩ => ⟨c, S, fun r H1 S1 e1 n1 => by
    have n2 := (List.nodup_cons.mp S1.nd).1
    obtain ⟨u0, _, bu⟩ := S1.env.2 i _ hG
    have bk : Bx (rKT A (is (.ref r))) (.ref r) (vis c ((r, C) :: W) H1) := fun H2 e2 => ⟨bx_is, (bu H2 e2).2⟩
    refine ⟨r, spf_use (W1 := (r, C') :: W) S1 (.cons bk .nil) (fun p hp => by rw [List.mem_singleton.mp hp]; exact List.mem_cons_self) (by simp) rfl rfl (fun a D h => ?_) fun v H' S' e2 b2 => ?_⟩
    · rcases List.mem_cons.mp h with h2 | h2
      · exact .inl (by rw [h2]; exact List.mem_cons_self)
      · refine .inr ⟨List.mem_cons_of_mem _ h2, fun z => ?_⟩
        have ea : a = r := by simpa [inO] using z
        exact n2 (List.mem_map.mpr ⟨_, h2, ea⟩)
    · have hm : ∀ b, inO W b → inO ((r, C') :: W) b := fun b z => List.mem_cons_of_mem _ z
      exact kq v H' (S'.drop (fun _ h => List.mem_cons_of_mem _ h) (List.nodup_cons.mp S'.nd).2) ((e1.trans e2).trans (vis_drop hm)) (b2.mono (vis_drop hm))⟩
end
end
end SQ
end
section
set_option maxHeartbeats 400000
namespace SQ
open PySem PySem.Spec PyProof.Rows L2 StX ClX
noncomputable section
section
variable {P : Program} {w : World} {K : PySem.W.Frag} {mg : Str → Option Value} {base : Heap} {A : Ad}
theorem sc_law : FnScope ["_law_script", "_law_spot_here"] ["_law_script"] (defScope (top 127)) := ⟨rfl, rfl, rfl, by decide +kernel, rfl, by decide +kernel, by decide +kernel⟩
theorem fnok_law (T : Tx K w mg A) {xs : List Int} {f : Addr} {fd : FuncData} (F : FunD K "law" "law" (defArgs (top 127)) (defBody (top 127)) (defScope (top 127)) [] [] f fd) (hz : xs.length ≤ 1000) (hM : ∀ (N : LN) (n : Int) (c : Cell) (p : Nat), N.ok → 1 ≤ n → n ≤ 10 ^ 30 → (0 ≤ c.1 ∧ c.1 < n ∧ 0 ≤ c.2 ∧ c.2 < n) → outN N (far n) = false → p ≤ 10 ^ 30 → LawOk N n c p) :
    FnOk P w K mg base CX0 11 f fd ["_law_script"] (SpF [rKT A (rSc K xs)] [] [] (is (.bl true))) :=
  fnok_of F sc_law rfl fun cdv Ar outer s H E hr => by
  let c := imax 2 (imin xs.length 3)
  have hc : 2 ≤ c ∧ c ≤ 3 := by
    show 2 ≤ imax 2 (imin xs.length 3) ∧ imax 2 (imin xs.length 3) ≤ 3
    unfold imax imin
    split <;> split <;> omega
  -- return all([_law_right(_law_purl(_law_script, _law_spot_here)) for _law_spot_here in range(max(2, min(len(_law
  refine dss_ret (de_eq (de_bi (ca_all (ns := (List.range c.toNat).map fun _ => true)) T.n_all boot_all (da_cons (de_eq (de_lcA (own := [("_law_spot_here", 1)]) (js := [1]) (xs := List.range c.toNat) (p := fun (k : Nat) => is (.int (0 + (k : Nat)))) (r := fun _ => is (.bl true)) (up := fun k G => G.set 1 (some (is (.int (0 + (k : Nat)))))) sc_law.nd (di_range1 (n := c) T.n_range (da_cons (de_bi (ca_max2) T.n_max boot_max (da_cons de_int (da_cons (de_bi (ca_min2) T.n_min boot_min (da_cons (de_bi ca_lenSc T.n_len boot_len (da_cons (de_un (de_var 0)) da_nil)) (da_cons de_int da_nil))) da_nil))) da_nil) (by omega)) (blk_of (by kernel_rfl)) (by simp) (by rw [List.length_range]; omega) (fun s H C cl fp x hx => (dg_name 1 sc_law.nd)) (fun s H C cl fp k hk => ?_)) (by rw [List.map_map]; rfl)) da_nil)) (by rw [all_tr])) (rt_same)
  have hk := List.mem_range.mp hk
  have ez : (0 : Int) + (k : Nat) = (k : Nat) := by omega
  simp only [ez]
  exact de_callNK 0 (fun q => fn_law_right T hM) hr (dn_call (fn_law_purl T (k := k) (by omega) hz) hr (da_cons (de_var 0) (da_cons (de_var 1) da_nil)))
end
end
end SQ
end
section
set_option maxHeartbeats 400000
namespace SQ
open PySem PySem.Spec PyProof.Rows L2
/-! what holds of two runs, entry by entry -/
section
variable {α β : Type} {R : α → β → Prop}
theorem pr_len {vs : List α} {us : List β} (h : Paired R vs us) : vs.length = us.length := Paired.length h
theorem pr_set : ∀ {vs : List α} {us : List β} {p : Nat} {x : α} {y : β}, Paired R vs us → R x y → Paired R (vs.set p x) (us.set p y)
  | _, _, _, _, _, .nil, _ => .nil
  | _, _, 0, _, _, .cons _ r, h => .cons h r
  | _, _, p + 1, _, _, .cons a r, h => .cons a (pr_set r h)
theorem pr_get {vs : List α} {us : List β} {p : Nat} {d : α} {d' : β} (h : Paired R vs us) (hp : p < vs.length) : R (vs.getD p d) (us.getD p d') := by
  obtain ⟨u, h1, h2⟩ := paired_at h (List.getElem?_eq_getElem hp)
  rw [List.getD_eq_getElem?_getD, List.getD_eq_getElem?_getD, List.getElem?_eq_getElem hp, h1]
  exact h2
theorem pr_ents {vs : List α} {us : List β} {d : α} {d' : β} (h : Paired R vs us) : ∀ {ps : List Nat}, (∀ p ∈ ps, p < vs.length) → Paired R (ents d ps vs) (ents d' ps us)
  | [], _ => .nil
  | p :: ps, hp => .cons (pr_get h (hp p List.mem_cons_self)) (pr_ents h fun q hq => hp q (List.mem_cons_of_mem _ hq))
theorem pr_sets : ∀ {ps : List Nat} {es : List α} {fs : List β} {vs : List α} {us : List β}, Paired R es fs → Paired R vs us → Paired R (sets (ps.zip es) vs) (sets (ps.zip fs) us)
  | [], _, _, _, _, _, h => h
  | p :: ps, _, _, _, _, .nil, h => h
  | p :: ps, _, _, vs, us, .cons a r, h => pr_sets (ps := ps) r (pr_set h a)
theorem pr_stp {mt jn : α → α → α} {mt' jn' : β → β → β} {d : α} {d' : β} {wd : Nat} {ps : List Nat} {vs : List α} {us : List β} (hm : ∀ x y x' y', R x x' → R y y' → R (mt x y) (mt' x' y')) (hj : ∀ x y x' y', R x x' → R y y' → R (jn x y) (jn' x' y'))
    (h : Paired R vs us) (hp : ∀ p ∈ ps, p < vs.length) (h2 : 2 ≤ ps.length) : Paired R (stp mt jn d wd ps vs) (stp mt' jn' d' wd ps us) := by
  have he := pr_ents (d := d) (d' := d') h hp
  have hl : (ents d ps vs).length = ps.length := by simp [ents]
  have g0 := pr_get (d := d) (d' := d') (p := 0) he (by omega)
  have g1 := pr_get (d := d) (d' := d') (p := 1) he (by omega)
  unfold stp
  split
  · exact pr_set h g0
  · split
    · exact pr_set (pr_set h (hm _ _ _ _ g0 g1)) (hj _ _ _ _ g0 g1)
    · unfold shf
      refine pr_set (pr_sets he h) ?_
      have gl := pr_get (d := d) (d' := d') (p := ps.length - 1) he (by omega)
      have e1 : (ents d ps vs).getLastD d = (ents d ps vs).getD (ps.length - 1) d := by
        rw [List.getLastD_eq_getLast?, List.getLast?_eq_getElem?, hl, List.getD_eq_getElem?_getD]
      have e2 : (ents d' ps us).getLastD d' = (ents d' ps us).getD (ps.length - 1) d' := by
        have hl2 : (ents d' ps us).length = ps.length := by simp [ents]
        rw [List.getLastD_eq_getLast?, List.getLast?_eq_getElem?, hl2, List.getD_eq_getElem?_getD]
      rw [e1, e2]
      exact gl
theorem pr_ddo {mt jn : α → α → α} {mt' jn' : β → β → β} {d : α} {d' : β} {D : LD} {cs : List Cell} {n i j : Int} {vs : List α} {us : List β} (hD : D.ok) (hm : ∀ x y x' y', R x x' → R y y' → R (mt x y) (mt' x' y')) (hj : ∀ x y x' y', R x x' → R y y' → R (jn x y) (jn' x' y'))
    (h : Paired R vs us) (hl : vs.length = cs.length) (him : ∀ s, s < 8 → im n i j s ∈ cs) : Paired R (ddo mt jn d D cs n i j vs) (ddo mt' jn' d' D cs n i j us) := by
  unfold ddo
  split
  · refine pr_stp hm hj h (fun p hp => ?_) (by rw [List.length_map]; exact hD.le2.1)
    obtain ⟨s, hs, rfl⟩ := List.mem_map.mp hp
    rw [hl]
    exact List.idxOf_lt_length_iff.mpr (him s (hD.s8 s hs))
  · exact h
theorem pr_efD {mt jn : α → α → α} {mt' jn' : β → β → β} {d : α} {d' : β} {cs : List Cell} {n : Int} {c : Cell} (hm : ∀ x y x' y', R x x' → R y y' → R (mt x y) (mt' x' y')) (hj : ∀ x y x' y', R x x' → R y y' → R (jn x y) (jn' x' y')) (him : ∀ s, s < 8 → im n c.1 c.2 s ∈ cs) :
    ∀ {Ds : List LD} {vs : List α} {us : List β}, (∀ D ∈ Ds, LD.ok D) → Paired R vs us → vs.length = cs.length → Paired R (efD mt jn d cs n c Ds vs) (efD mt' jn' d' cs n c Ds us)
  | [], _, _, _, h, _ => h
  | D :: Ds, vs, us, hD, h, hl => pr_efD hm hj him (Ds := Ds) (fun D' h' => hD D' (List.mem_cons_of_mem _ h')) (pr_ddo (hD D List.mem_cons_self) hm hj h hl him) (by rw [ddo_len, hl])
theorem pr_efC {mt jn : α → α → α} {mt' jn' : β → β → β} {d : α} {d' : β} {cs : List Cell} {n : Int} {Ds : List LD} (hD : ∀ D ∈ Ds, LD.ok D) (hm : ∀ x y x' y', R x x' → R y y' → R (mt x y) (mt' x' y')) (hj : ∀ x y x' y', R x x' → R y y' → R (jn x y) (jn' x' y')) :
    ∀ {rs : List Cell} {vs : List α} {us : List β}, (∀ x ∈ rs, ∀ s, s < 8 → im n x.1 x.2 s ∈ cs) → Paired R vs us → vs.length = cs.length → Paired R (efC mt jn d cs n Ds rs vs) (efC mt' jn' d' cs n Ds rs us)
  | [], _, _, _, h, _ => h
  | c :: rs, vs, us, him, h, hl => pr_efC hD hm hj (rs := rs) (fun x hx => him x (List.mem_cons_of_mem _ hx)) (pr_efD hm hj (him c List.mem_cons_self) hD h hl) (by rw [efD_len, hl])
/-- a round of all of one nest -/
theorem pr_rnd {mt jn : α → α → α} {mt' jn' : β → β → β} {d : α} {d' : β} {N : LN} {n : Int} {cs : List Cell} {vs : List α} {us : List β} (hN : N.ok) (hm : ∀ x y x' y', R x x' → R y y' → R (mt x y) (mt' x' y')) (hj : ∀ x y x' y', R x x' → R y y' → R (jn x y) (jn' x' y'))
    (him : ∀ x ∈ cs, ∀ s, s < 8 → im n x.1 x.2 s ∈ cs) (h : Paired R vs us) (hl : vs.length = cs.length) : Paired R (efC mt jn d cs n N.ds (rds N n cs) vs) (efC mt' jn' d' cs n N.ds (rds N n cs) us) :=
  pr_efC hN.2.2.1 hm hj (fun x hx => him x (rds_mem hx)) h hl
end
end SQ
end
section
set_option maxHeartbeats 400000
namespace SQ
open PySem PySem.Spec PyProof.Rows L2
/-! bits -/
theorem pow_cast (k : Nat) : ((2 : Int) ^ k) = ((2 ^ k : Nat) : Int) := by push_cast; rfl
theorem bitN_nat (a b : Nat) : bitN (a : Int) b = (((a.testBit b).toNat : Nat) : Int) := by
  unfold bitN
  rw [Nat.toNat_testBit, pow_cast, ← Int.natCast_ediv]
  rfl
theorem bitN_01 {x : Int} (b : Nat) : 0 ≤ bitN x b ∧ bitN x b < 2 := ⟨Int.emod_nonneg _ (by decide), Int.emod_lt_of_pos _ (by decide)⟩
theorem bit_and {x y : Int} (hx : 0 ≤ x) (hy : 0 ≤ y) (b : Nat) : bitN (Builtin.bitAnd x y) b = imin (bitN x b) (bitN y b) := by
  obtain ⟨a, rfl⟩ := Int.eq_ofNat_of_zero_le hx
  obtain ⟨c, rfl⟩ := Int.eq_ofNat_of_zero_le hy
  rw [PyProof.Rows.bitAnd_pp hx hy, Int.toNat_natCast, Int.toNat_natCast, bitN_nat, bitN_nat, bitN_nat, Nat.testBit_and]
  cases a.testBit b <;> cases c.testBit b <;> decide
theorem bit_or {x y : Int} (hx : 0 ≤ x) (hy : 0 ≤ y) (b : Nat) : bitN (Builtin.bitOr x y) b = imax (bitN x b) (bitN y b) := by
  obtain ⟨a, rfl⟩ := Int.eq_ofNat_of_zero_le hx
  obtain ⟨c, rfl⟩ := Int.eq_ofNat_of_zero_le hy
  rw [Bits.bitOr_pp hx hy, Int.toNat_natCast, Int.toNat_natCast, bitN_nat, bitN_nat, bitN_nat, Nat.testBit_or]
  cases a.testBit b <;> cases c.testBit b <;> decide
theorem bit_xor {x y : Int} (hx : 0 ≤ x) (hy : 0 ≤ y) (b : Nat) : bitN (Builtin.bitXor x y) b = if bitN x b = bitN y b then 0 else 1 := by
  obtain ⟨a, rfl⟩ := Int.eq_ofNat_of_zero_le hx
  obtain ⟨c, rfl⟩ := Int.eq_ofNat_of_zero_le hy
  rw [Bits.bitXor_pp hx hy, Int.toNat_natCast, Int.toNat_natCast, bitN_nat, bitN_nat, bitN_nat, Nat.testBit_xor]
  cases a.testBit b <;> cases c.testBit b <;> decide
theorem and_nn {x y : Int} (hx : 0 ≤ x) (hy : 0 ≤ y) : 0 ≤ Builtin.bitAnd x y := by
  rw [PyProof.Rows.bitAnd_pp hx hy]
  exact Int.natCast_nonneg _
/-! contents as numbers -/
def enc : List Int → Int
  | [] => 0
  | a :: x => a + 2 * enc x
def dec (m b : Nat) : List Int := (List.range m).map fun k => bitN (b : Int) k
def B01 (x : List Int) : Prop := ∀ y ∈ x, 0 ≤ y ∧ y < 2
theorem enc_sum : ∀ (x : List Int) (s : Nat), ((x.zipIdx s).map fun p => p.1 * 2 ^ p.2).sum = 2 ^ s * enc x
  | [], s => by simp [enc]
  | a :: x, s => by
    rw [List.zipIdx_cons, List.map_cons, List.sum_cons, enc_sum x (s + 1), enc, Int.pow_succ, Int.mul_add, Int.mul_comm a]
    congr 1
    rw [Int.mul_assoc]
theorem mvB_enc (ts : List Int) (b : Nat) : mvB ts b = enc (ts.map fun t => bitN t b) := by
  have := enc_sum (ts.map fun t => bitN t b) 0
  rw [Int.pow_zero, Int.one_mul, List.zipIdx_map, List.map_map] at this
  exact this
theorem enc_bd : ∀ {x : List Int}, B01 x → 0 ≤ enc x ∧ enc x < 2 ^ x.length
  | [], _ => by simp [enc]
  | a :: x, h => by
    have h1 := h a List.mem_cons_self
    have h2 := enc_bd (x := x) fun y hy => h y (List.mem_cons_of_mem _ hy)
    rw [enc, List.length_cons, Int.pow_succ]
    omega
theorem bit_zero (x : Int) : bitN x 0 = x % 2 := by
  unfold bitN
  rw [Int.pow_zero, Int.ediv_one]
theorem bit_succ (x : Int) (k : Nat) : bitN x (k + 1) = bitN (x / 2) k := by
  unfold bitN
  rw [Int.pow_succ, Int.mul_comm, Int.ediv_ediv_of_nonneg (by decide)]
theorem bit_enc : ∀ {x : List Int} (k : Nat), B01 x → bitN (enc x) k = x.getD k 0
  | [], k, _ => by
    unfold bitN enc
    simp
  | a :: x, 0, h => by
    have h1 := h a List.mem_cons_self
    rw [bit_zero, enc]
    show _ = a
    omega
  | a :: x, k + 1, h => by
    have h1 := h a List.mem_cons_self
    have e : (a + 2 * enc x) / 2 = enc x := by omega
    rw [bit_succ, enc, e, bit_enc k fun y hy => h y (List.mem_cons_of_mem _ hy)]
    rfl
theorem dec_len (m b : Nat) : (dec m b).length = m := by
  unfold dec
  rw [List.length_map, List.length_range]
theorem dec_01 (m b : Nat) : B01 (dec m b) := fun y hy => by
  obtain ⟨k, _, rfl⟩ := List.mem_map.mp hy
  exact bitN_01 k
theorem dec_at {m b k : Nat} (h : k < m) : (dec m b).getD k 0 = bitN (b : Int) k := by
  unfold dec
  rw [List.getD_eq_getElem?_getD, List.getElem?_map, List.getElem?_range h]
  rfl
theorem ext01 {x y : List Int} (hl : x.length = y.length) (h : ∀ k, k < x.length → x.getD k 0 = y.getD k 0) : x = y := by
  apply List.ext_getElem?
  intro k
  by_cases hk : k < x.length
  · have := h k hk
    rw [List.getD_eq_getElem?_getD, List.getD_eq_getElem?_getD, List.getElem?_eq_getElem hk, List.getElem?_eq_getElem (by omega)] at this
    rw [List.getElem?_eq_getElem hk, List.getElem?_eq_getElem (by omega)]
    exact congrArg some this
  · rw [List.getElem?_eq_none (by omega), List.getElem?_eq_none (by omega)]
theorem dec_enc {x : List Int} (h : B01 x) : dec x.length (enc x).toNat = x := by
  have hb := enc_bd h
  refine ext01 (dec_len ..) fun k hk => ?_
  rw [dec_len] at hk
  rw [dec_at hk, Int.toNat_of_nonneg hb.1, bit_enc k h]
/-- numbers with the same bits -/
theorem bits_ext {a b : Int} {m : Nat} (ha : 0 ≤ a ∧ a < 2 ^ m) (hb : 0 ≤ b ∧ b < 2 ^ m) (h : ∀ k, k < m → bitN a k = bitN b k) : a = b := by
  induction m generalizing a b with
  | zero =>
    rw [Int.pow_zero] at ha hb
    omega
  | succ m ih =>
    have h0 := h 0 (by omega)
    rw [bit_zero, bit_zero] at h0
    rw [Int.pow_succ] at ha hb
    have := ih (a := a / 2) (b := b / 2) (by omega) (by omega) fun k hk => by
      rw [← bit_succ, ← bit_succ]
      exact h (k + 1) (by omega)
    omega
theorem enc_dec {m b : Nat} (h : b < 2 ^ m) : enc (dec m b) = (b : Int) := by
  have hb := enc_bd (dec_01 m b)
  rw [dec_len] at hb
  refine bits_ext hb ⟨Int.natCast_nonneg _, by rw [pow_cast]; exact Int.ofNat_lt.mpr h⟩ fun k hk => ?_
  rw [bit_enc k (dec_01 m b), dec_at hk]
/-- the tables of the single entries -/
theorem st_bits : ∀ m, m ≤ 8 → ∀ k, k < m → 0 ≤ stT m k ∧ ∀ b, b < 2 ^ m → bitN (stT m k) b = bitN (b : Int) k := by decide +kernel
end SQ
end
section
set_option maxHeartbeats 400000
namespace SQ
open PySem PySem.Spec PyProof.Rows L2
/-! the moves are the rounds, on contents as numbers -/
structure CsOk (n : Int) (cs : List Cell) : Prop where
  nd : cs.Nodup
  z8 : cs.length ≤ 8
  im : ∀ x ∈ cs, ∀ s, s < 8 → im n x.1 x.2 s ∈ cs
theorem orb_ok (n i j : Int) : CsOk n (orb n i j) := ⟨orb_nd .., orb_len .., orb_im⟩
theorem paired_of {α β : Type} {R : α → β → Prop} : ∀ {l : List α} {m : List β}, l.length = m.length → (∀ (i : Nat) x y, l[i]? = some x → m[i]? = some y → R x y) → Paired R l m
  | [], [], _, _ => .nil
  | x :: l, y :: m, h, f => .cons (f 0 x y rfl rfl) (paired_of (by simpa using h) fun i x y h1 h2 => f (i + 1) x y h1 h2)
  | [], _ :: _, h, _ => by simp at h
  | _ :: _, [], h, _ => by simp at h
theorem paired_self {α : Type} {R : α → α → Prop} {l : List α} (h : ∀ x ∈ l, R x x) : Paired R l l := paired_of rfl fun i x y h1 h2 => by
  rw [h1] at h2
  cases h2
  exact h x (List.mem_of_getElem? h1)
theorem paired_memL {α β : Type} {R : α → β → Prop} : ∀ {l : List α} {m : List β}, Paired R l m → ∀ x ∈ l, ∃ y, R x y
  | _, _, .nil, x, h => nomatch h
  | _, _, .cons a r, x, h => by
    rcases List.mem_cons.mp h with rfl | h
    · exact ⟨_, a⟩
    · exact paired_memL r x h
theorem imin_or (x y : Int) : imin x y = x ∨ imin x y = y := by
  unfold imin
  split
  · exact .inr rfl
  · exact .inl rfl
theorem imax_or (x y : Int) : imax x y = x ∨ imax x y = y := by
  unfold imax
  split
  · exact .inr rfl
  · exact .inl rfl
theorem rnd_all {N : LN} {n : Int} {cs : List Cell} {x : List Int} {q : Int → Prop} (hN : N.ok) (hc : CsOk n cs) (hl : x.length = cs.length) (h : ∀ y ∈ x, q y) : ∀ y ∈ rnd N n cs x, q y := by
  have key := pr_rnd (R := fun a (_ : Int) => q a) (mt := imin) (jn := imax) (mt' := imin) (jn' := imax) (d := 0) (d' := 0) hN (fun x y _ _ hx hy => by rcases imin_or x y with e | e <;> rw [e] <;> assumption) (fun x y _ _ hx hy => by rcases imax_or x y with e | e <;> rw [e] <;> assumption) hc.im (paired_self h) hl
  intro y hy
  obtain ⟨_, hz⟩ := paired_memL key y hy
  exact hz
theorem itr_all {N : LN} {n : Int} {cs : List Cell} {x : List Int} {q : Int → Prop} (hN : N.ok) (hc : CsOk n cs) (hl : x.length = cs.length) (h : ∀ y ∈ x, q y) : ∀ p, ∀ y ∈ itr (rnd N n cs) p x, q y
  | 0 => h
  | p + 1 => rnd_all hN hc (by rw [itr_rnd_len, hl]) (itr_all hN hc hl h p)
theorem st_at {m b : Nat} (hm : m ≤ 8) (hb : b < 2 ^ m) : Paired (fun x y => 0 ≤ x ∧ y = bitN x b) (stA m) (dec m b) := by
  refine paired_of (by simp [stA, dec]) fun i x y h1 h2 => ?_
  unfold stA at h1
  unfold dec at h2
  rw [List.getElem?_map] at h1 h2
  by_cases hi : i < m
  · rw [List.getElem?_range hi] at h1 h2
    cases h1
    cases h2
    obtain ⟨a1, a2⟩ := st_bits m hm i hi
    exact ⟨a1, (a2 b hb).symm⟩
  · rw [List.getElem?_eq_none (by rw [List.length_range]; omega)] at h1
    cases h1
theorem bits_map : ∀ {ts ys : List Int} {b : Nat}, Paired (fun x y => 0 ≤ x ∧ y = bitN x b) ts ys → ts.map (fun t => bitN t b) = ys
  | _, _, _, .nil => rfl
  | _, _, _, .cons a r => by rw [List.map_cons, bits_map r, a.2]
theorem mov_len {N : LN} {n : Int} {cs : List Cell} : (mov [N] n cs).length = 2 ^ cs.length := by
  unfold mov mvs
  rw [List.length_map, List.length_range, efN_len]
  simp [stA]
theorem mov_at {N : LN} {n : Int} {cs : List Cell} (hN : N.ok) (hc : CsOk n cs) {b : Nat} (hb : b < 2 ^ cs.length) : mvf (mov [N] n cs) b = enc (rnd N n cs (dec cs.length b)) := by
  have hts : (efN Builtin.bitAnd Builtin.bitOr 0 cs n [N] (stA cs.length)).length = cs.length := by
    rw [efN_len]
    simp [stA]
  have key := pr_rnd (R := fun x y => 0 ≤ x ∧ y = bitN x b) (mt := Builtin.bitAnd) (jn := Builtin.bitOr) (mt' := imin) (jn' := imax) (d := 0) (d' := 0) hN
    (fun x y x' y' h1 h2 => ⟨and_nn h1.1 h2.1, by rw [bit_and h1.1 h2.1, ← h1.2, ← h2.2]⟩) (fun x y x' y' h1 h2 => ⟨Bits.bitOr_nonneg h1.1 h2.1, by rw [bit_or h1.1 h2.1, ← h1.2, ← h2.2]⟩) hc.im (st_at hc.z8 hb) (by simp [stA])
  have e := bits_map key
  unfold mvf mov mvs
  rw [hts, Int.toNat_natCast, List.getD_eq_getElem?_getD, List.getElem?_map, List.getElem?_range hb]
  show mvB (efN Builtin.bitAnd Builtin.bitOr 0 cs n [N] (stA cs.length)) b = _
  rw [mvB_enc]
  exact congrArg enc e
theorem dec_ok {n : Int} {cs : List Cell} {b : Nat} : (dec cs.length b).length = cs.length := dec_len ..
theorem mov_ok {N : LN} {n : Int} {cs : List Cell} (hN : N.ok) (hc : CsOk n cs) : MvOk (mov [N] n cs) := by
  intro y hy
  obtain ⟨b, hb⟩ := List.getElem?_of_mem hy
  have hlt : b < 2 ^ cs.length := by
    rw [← mov_len (N := N) (n := n) (cs := cs)]
    exact (List.getElem?_eq_some_iff.mp hb).1
  have e : mvf (mov [N] n cs) b = y := by
    unfold mvf
    rw [Int.toNat_natCast, List.getD_eq_getElem?_getD, hb]
    rfl
  rw [mov_at hN hc hlt] at e
  have h1 := enc_bd (x := rnd N n cs (dec cs.length b)) (rnd_all hN hc (dec_len ..) (dec_01 _ _))
  rw [rnd_len, dec_len, e] at h1
  rw [mov_len, ← pow_cast]
  exact h1
theorem itr_mov {N : LN} {n : Int} {cs : List Cell} (hN : N.ok) (hc : CsOk n cs) {b : Nat} (hb : b < 2 ^ cs.length) : ∀ p, itr (mvf (mov [N] n cs)) p b = enc (itr (rnd N n cs) p (dec cs.length b))
  | 0 => (enc_dec hb).symm
  | p + 1 => by
    have ih := itr_mov hN hc hb p
    show mvf _ (itr _ p _) = enc (rnd N n cs (itr _ p _))
    rw [ih]
    have h01 : B01 (itr (rnd N n cs) p (dec cs.length b)) := itr_all hN hc (dec_len ..) (dec_01 _ _) p
    have hl : (itr (rnd N n cs) p (dec cs.length b)).length = cs.length := by rw [itr_rnd_len, dec_len]
    generalize itr (rnd N n cs) p (dec cs.length b) = y at *
    have hbd := enc_bd h01
    rw [hl] at hbd
    have hlt : (enc y).toNat < 2 ^ cs.length := by
      rw [pow_cast] at hbd
      omega
    have e := mov_at (N := N) hN hc hlt
    rw [Int.toNat_of_nonneg hbd.1, ← hl, dec_enc h01] at e
    exact e
theorem rep_len {ms : List Int} {p : Nat} : (rep ms p).length = ms.length := by
  unfold rep
  rw [List.length_map, List.length_range]
theorem rep_at {ms : List Int} {p b : Nat} (hb : b < ms.length) : mvf (rep ms p) b = itr (mvf ms) p b := by
  unfold mvf rep
  rw [Int.toNat_natCast, List.getD_eq_getElem?_getD, List.getElem?_map, List.getElem?_range hb]
  rfl
end SQ
end
section
set_option maxHeartbeats 400000
namespace SQ
open PySem PySem.Spec PyProof.Rows L2
/-! the least contents tell the whole -/
theorem add_bit : ∀ (e j : Nat) {c : Int}, bitN c e = 0 → bitN (c + 2 ^ e) j = if j = e then 1 else bitN c j
  | 0, 0, c, h => by
    rw [bit_zero] at h
    rw [if_pos rfl, bit_zero, Int.pow_zero]
    omega
  | 0, j + 1, c, h => by
    rw [bit_zero] at h
    rw [if_neg (by omega), bit_succ, bit_succ, Int.pow_zero]
    congr 1
    omega
  | e + 1, 0, c, h => by
    rw [if_neg (by omega), bit_zero, bit_zero, Int.pow_succ]
    omega
  | e + 1, j + 1, c, h => by
    rw [bit_succ] at h
    have e1 : (c + 2 ^ (e + 1)) / 2 = c / 2 + 2 ^ e := by
      rw [Int.pow_succ]
      omega
    rw [bit_succ, e1, add_bit e j h, bit_succ]
    by_cases z : j = e
    · rw [if_pos z, if_pos (by omega)]
    · rw [if_neg z, if_neg (by omega)]
theorem sub_bit {e j : Nat} {c : Int} (h : bitN c e = 1) : bitN (c - 2 ^ e) j = if j = e then 0 else bitN c j := by
  -- the bit of the difference at e is 0
  have h0 : bitN (c - 2 ^ e) e = 0 := by
    unfold bitN at h ⊢
    have hp : (2 : Int) ^ e ≠ 0 := Int.ne_of_gt (Int.pow_pos (by decide))
    have e1 : (c - 2 ^ e) / 2 ^ e = c / 2 ^ e - 1 := by
      have : c - 2 ^ e = c + (-1) * 2 ^ e := by omega
      rw [this, Int.add_mul_ediv_right _ _ hp]
      omega
    rw [e1]
    omega
  have := add_bit e j h0
  rw [Int.sub_add_cancel] at this
  by_cases z : j = e
  · subst z
    rw [if_pos rfl, h0]
  · rw [if_neg z] at this ⊢
    exact this.symm
def sub (m a b : Nat) : Prop := ∀ k, k < m → bitN (a : Int) k ≤ bitN (b : Int) k
structure MsOk (m : Nat) (ms : List Int) : Prop where
  len : ms.length = 2 ^ m
  m8 : m ≤ 8
  bd : ∀ b : Nat, b < 2 ^ m → 0 ≤ mvf ms b ∧ mvf ms b < 2 ^ m
  mono : ∀ a b, a < 2 ^ m → b < 2 ^ m → sub m a b → ∀ e, e < m → bitN (mvf ms (a : Nat)) e ≤ bitN (mvf ms (b : Nat)) e
  zero : ∀ e, e < m → bitN (mvf ms 0) e = 0
  one : ∀ e, e < m → ∃ b : Nat, b < 2 ^ m ∧ bitN (mvf ms (b : Nat)) e = 1
theorem mem_bts {b k m : Nat} (hm : m ≤ 8) (hb : b < 2 ^ m) : k ∈ bts (b : Int) ↔ k < m ∧ bitN (b : Int) k = 1 := by
  constructor
  · intro h
    exact ⟨bts_lt (Int.natCast_nonneg b) (by rw [pow_cast]; exact Int.ofNat_lt.mpr hb) h, of_decide_eq_true (List.mem_filter.mp h).2⟩
  · rintro ⟨h1, h2⟩
    exact List.mem_filter.mpr ⟨List.mem_range.mpr (by omega), decide_eq_true h2⟩
theorem bit_le {b k : Nat} (h : bitN (b : Int) k = 1) : 2 ^ k ≤ b := by
  refine Nat.not_lt.mp fun z => ?_
  unfold bitN at h
  rw [pow_cast, Int.ediv_eq_zero_of_lt (Int.natCast_nonneg _) (Int.ofNat_lt.mpr z)] at h
  cases h
theorem bit_cases (x : Int) (k : Nat) : bitN x k = 0 ∨ bitN x k = 1 := by
  have := bitN_01 (x := x) k
  omega
section
variable {m : Nat} {ms : List Int}
theorem mem_lcs (M : MsOk m ms) {e b : Nat} : b ∈ lcs ms e ↔ b < 2 ^ m ∧ bitN (mvf ms (b : Nat)) e = 1 ∧ ∀ k ∈ bts (b : Int), bitN (mvf ms ((b - 2 ^ k : Nat) : Int)) e = 0 := by
  unfold lcs
  rw [List.mem_filter, List.mem_range, M.len]
  unfold lcT
  rw [Bool.and_eq_true, decide_eq_true_eq, List.all_eq_true]
  constructor
  · rintro ⟨h1, h2, h3⟩
    exact ⟨h1, h2, fun k hk => of_decide_eq_true (h3 k hk)⟩
  · rintro ⟨h1, h2, h3⟩
    exact ⟨h1, h2, fun k hk => decide_eq_true (h3 k hk)⟩
theorem sub_one {b k : Nat} (h : bitN (b : Int) k = 1) : ∀ j, bitN ((b - 2 ^ k : Nat) : Int) j = if j = k then 0 else bitN (b : Int) j := by
  intro j
  have e : ((b - 2 ^ k : Nat) : Int) = (b : Int) - 2 ^ k := by
    have := bit_le h
    rw [pow_cast]
    omega
  rw [e]
  exact sub_bit h
/-- beneath a content with the entry stands a least one -/
theorem least_below (M : MsOk m ms) {e : Nat} (he : e < m) : ∀ b, b < 2 ^ m → bitN (mvf ms (b : Nat)) e = 1 → ∃ ct ∈ lcs ms e, sub m ct b := by
  intro b
  induction b using Nat.strongRecOn with
  | _ b ih =>
    intro hb h1
    by_cases h : ∀ k ∈ bts (b : Int), bitN (mvf ms ((b - 2 ^ k : Nat) : Int)) e = 0
    · exact ⟨b, (mem_lcs M).mpr ⟨hb, h1, h⟩, fun k _ => Int.le_refl _⟩
    · have : ∃ k, k ∈ bts (b : Int) ∧ ¬ bitN (mvf ms ((b - 2 ^ k : Nat) : Int)) e = 0 := by
        refine Classical.byContradiction fun z => h fun k hk => Classical.byContradiction fun y => z ⟨k, hk, y⟩
      obtain ⟨k, hk, hn⟩ := this
      obtain ⟨hkm, hbk⟩ := (mem_bts M.m8 hb).mp hk
      have hle := bit_le hbk
      have hp : 0 < 2 ^ k := Nat.two_pow_pos k
      have h1' : bitN (mvf ms ((b - 2 ^ k : Nat) : Int)) e = 1 := (bit_cases _ _).resolve_left hn
      obtain ⟨ct, hct, hs⟩ := ih (b - 2 ^ k) (by omega) (by omega) h1'
      refine ⟨ct, hct, fun j hj => Int.le_trans (hs j hj) ?_⟩
      rw [sub_one hbk j]
      split
      · exact (bitN_01 _).1
      · exact Int.le_refl _
theorem lcs_ne (M : MsOk m ms) {e : Nat} (he : e < m) : (∀ ct ∈ lcs ms e, bts (ct : Int) ≠ []) ∧ lcs ms e ≠ [] := by
  constructor
  · intro ct hct hb
    obtain ⟨h1, h2, _⟩ := (mem_lcs M).mp hct
    -- no bit: the content is 0
    have h0 : ct = 0 := by
      have := bits_ext (a := (ct : Int)) (b := 0) (m := m) ⟨Int.natCast_nonneg _, by rw [pow_cast]; exact Int.ofNat_lt.mpr h1⟩ ⟨Int.le_refl _, by rw [pow_cast]; exact Int.ofNat_lt.mpr (Nat.two_pow_pos m)⟩ fun k hk => by
        rcases bit_cases (ct : Int) k with z | z
        · rw [z]
          unfold bitN
          simp
        · have := (mem_bts M.m8 h1).mpr ⟨hk, z⟩
          rw [hb] at this
          cases this
      omega
    subst h0
    have z := M.zero e he
    have h2 : bitN (mvf ms 0) e = 1 := h2
    omega
  · intro z
    obtain ⟨b, hb, h1⟩ := M.one e he
    obtain ⟨ct, hct, _⟩ := least_below M he b hb h1
    rw [z] at hct
    cases hct
/-- the formula gives the entry -/
theorem met_eq (M : MsOk m ms) {cs : List Cell} (nd : cs.Nodup) (hl : cs.length = m) {e : Nat} (he : e < m) {x : List Int} (hx : x.length = m) (h01 : B01 x) : metV cs x (fml cs ms e) = bitN (mvf ms (enc x)) e := by
  have hbd := enc_bd h01
  rw [hx] at hbd
  have hlt : (enc x).toNat < 2 ^ m := by
    rw [pow_cast] at hbd
    omega
  have eN : (((enc x).toNat : Nat) : Int) = enc x := Int.toNat_of_nonneg hbd.1
  have xat : ∀ k, bitN (enc x) k = x.getD k 0 := fun k => bit_enc k h01
  obtain ⟨ne, sm⟩ := lcs_ne M he
  have pm : (fml cs ms e).Perm ((lcs ms e).map (tmC cs)) := List.mergeSort_perm _ _
  -- the value of a term
  have tv : ∀ ct ∈ lcs ms e, tmV cs x (tmC cs ct) = lMin ((bts (ct : Int)).map fun k => x.getD k 0) := fun ct hct => by
    have hlt := ((mem_lcs M).mp hct).1
    unfold tmV tmC
    rw [List.map_map]
    congr 1
    refine List.map_congr_left fun k hk => ?_
    have hk2 : k < cs.length := by rw [hl]; exact ((mem_bts M.m8 hlt).mp hk).1
    show x.getD (cs.idxOf (cs.getD k (0, 0))) 0 = _
    rw [List.getD_eq_getElem?_getD (l := cs), List.getElem?_eq_getElem hk2, Option.getD_some, nd.idxOf_getElem k hk2]
  have xr : ∀ k, 0 ≤ x.getD k 0 ∧ x.getD k 0 < 2 := fun k => by rw [← xat]; exact bitN_01 k
  have tvr : ∀ ct ∈ lcs ms e, 0 ≤ tmV cs x (tmC cs ct) ∧ tmV cs x (tmC cs ct) ≤ 1 := fun ct hct => by
    rw [tv ct hct]
    obtain ⟨h1, _⟩ := lMin_ok (xs := (bts (ct : Int)).map fun k => x.getD k 0) (by simpa using ne ct hct)
    obtain ⟨k, _, hk⟩ := List.mem_map.mp h1
    have := xr k
    omega
  have hF : (fml cs ms e).map (tmV cs x) ≠ [] := fun z => by
    have := pm.length_eq
    rw [List.map_eq_nil_iff] at z
    rw [z, List.length_map] at this
    exact sm (List.length_eq_zero_iff.mp this.symm)
  obtain ⟨m1, m2⟩ := lMax_ok hF
  have memF : ∀ t, t ∈ fml cs ms e ↔ ∃ ct ∈ lcs ms e, tmC cs ct = t := fun t => by rw [pm.mem_iff, List.mem_map]
  obtain ⟨t0, ht0, e0⟩ := List.mem_map.mp m1
  obtain ⟨ct0, hct0, rfl⟩ := (memF t0).mp ht0
  have hr0 := tvr ct0 hct0
  unfold metV
  rcases bit_cases (mvf ms (enc x)) e with hv | hv
  · rw [hv]
    -- no term is 1
    have hz : tmV cs x (tmC cs ct0) = 0 := by
      refine Classical.byContradiction fun z => ?_
      have h1 : tmV cs x (tmC cs ct0) = 1 := by omega
      rw [tv ct0 hct0] at h1
      obtain ⟨_, h2⟩ := lMin_ok (xs := (bts (ct0 : Int)).map fun k => x.getD k 0) (by simpa using ne ct0 hct0)
      obtain ⟨c1, c2, _⟩ := (mem_lcs M).mp hct0
      have hsub : sub m ct0 (enc x).toNat := fun k hk => by
        rw [eN, xat]
        rcases bit_cases (ct0 : Int) k with y | y
        · rw [y]; exact (xr k).1
        · have := h2 _ (List.mem_map.mpr ⟨k, (mem_bts M.m8 c1).mpr ⟨hk, y⟩, rfl⟩)
          omega
      have := M.mono ct0 _ c1 hlt hsub e he
      rw [eN, hv, c2] at this
      omega
    rw [← e0, hz]
  · rw [hv]
    obtain ⟨ct, hct, hs⟩ := least_below M he (enc x).toNat hlt (by rw [eN]; exact hv)
    have c1 := ((mem_lcs M).mp hct).1
    have h1 : tmV cs x (tmC cs ct) = 1 := by
      rw [tv ct hct]
      obtain ⟨h2, _⟩ := lMin_ok (xs := (bts (ct : Int)).map fun k => x.getD k 0) (by simpa using ne ct hct)
      obtain ⟨k, hk, hke⟩ := List.mem_map.mp h2
      obtain ⟨k1, k2⟩ := (mem_bts M.m8 c1).mp hk
      have := hs k k1
      rw [eN, xat, k2] at this
      have := xr k
      omega
    have := m2 (tmV cs x (tmC cs ct)) (List.mem_map.mpr ⟨_, (memF _).mpr ⟨ct, hct, rfl⟩, rfl⟩)
    rw [h1] at this
    rw [← e0] at this ⊢
    omega
end
end SQ
end
section
set_option maxHeartbeats 400000
namespace SQ
open PySem PySem.Spec PyProof.Rows L2
section
variable {m : Nat} {ms : List Int}
theorem rb_succ (e n : Nat) : rbF ms e (n + 1) = if bitN (n : Int) e = 0 then Builtin.bitOr (rbF ms e n) (Builtin.bitXor (mvf ms n) (mvf ms (n + 2 ^ e))) else rbF ms e n := by
  unfold rbF
  rw [List.range_succ, List.foldl_append]
  rfl
theorem up_cast (c e : Nat) : ((c : Int) + 2 ^ e) = ((c + 2 ^ e : Nat) : Int) := by
  rw [pow_cast]
  rfl
theorem rb_bit (M : MsOk m ms) {e : Nat} (he : e < m) : ∀ n, n ≤ 2 ^ m → 0 ≤ rbF ms e n ∧ ∀ k, bitN (rbF ms e n) k = 1 ↔ ∃ c : Nat, c < n ∧ bitN (c : Int) e = 0 ∧ bitN (mvf ms (c : Nat)) k ≠ bitN (mvf ms ((c + 2 ^ e : Nat) : Int)) k
  | 0, _ => ⟨Int.le_refl _, fun k => by
    constructor
    · intro h
      have : bitN (0 : Int) k = 0 := by unfold bitN; simp
      have h : bitN (0 : Int) k = 1 := h
      omega
    · rintro ⟨c, hc, _⟩
      exact absurd hc (Nat.not_lt_zero _)⟩
  | n + 1, hn => by
    obtain ⟨h0, hb⟩ := rb_bit M he n (by omega)
    rw [rb_succ]
    by_cases z : bitN (n : Int) e = 0
    · rw [if_pos z]
      have hup := bit_up he (show n < 2 ^ m by omega) z
      have v1 := (M.bd n (by omega)).1
      have v2 := (M.bd (n + 2 ^ e) hup).1
      rw [up_cast]
      have hx := Bits.bitXor_nonneg v1 v2
      refine ⟨Bits.bitOr_nonneg h0 hx, fun k => ?_⟩
      rw [bit_or h0 hx, bit_xor v1 v2]
      have c1 := bit_cases (rbF ms e n) k
      constructor
      · intro h
        by_cases y : bitN (mvf ms (n : Nat)) k = bitN (mvf ms ((n + 2 ^ e : Nat) : Int)) k
        · rw [if_pos y] at h
          have h3 : bitN (rbF ms e n) k = 1 := by
            rcases c1 with q | q
            · rw [q] at h
              cases h
            · exact q
          obtain ⟨c, hc, h4⟩ := (hb k).mp h3
          exact ⟨c, by omega, h4⟩
        · exact ⟨n, by omega, z, y⟩
      · rintro ⟨c, hc, h4, h5⟩
        by_cases hcn : c < n
        · have := (hb k).mpr ⟨c, hcn, h4, h5⟩
          rw [this]
          split <;> rfl
        · have : c = n := by omega
          subst this
          rw [if_neg h5]
          rcases c1 with q | q <;> rw [q] <;> rfl
    · rw [if_neg z]
      refine ⟨h0, fun k => ?_⟩
      rw [hb k]
      constructor
      · rintro ⟨c, hc, h4⟩
        exact ⟨c, by omega, h4⟩
      · rintro ⟨c, hc, h4, h5⟩
        by_cases hcn : c < n
        · exact ⟨c, hcn, h4, h5⟩
        · have : c = n := by omega
          subst this
          exact absurd h4 z
theorem high_bit {x : Int} {k m : Nat} (h : 0 ≤ x ∧ x < 2 ^ m) (hk : m ≤ k) : bitN x k = 0 := by
  unfold bitN
  rw [Int.ediv_eq_zero_of_lt h.1]
  · rfl
  · have : (2 : Int) ^ m ≤ 2 ^ k := by
      rw [pow_cast, pow_cast]
      exact Int.ofNat_le.mpr (Nat.pow_le_pow_right (by decide) hk)
    omega
theorem rb_lt (M : MsOk m ms) {e : Nat} (he : e < m) : ∀ k ∈ bts (rbF ms e ms.length), k < m := by
  intro k hk
  have h1 : bitN (rbF ms e ms.length) k = 1 := of_decide_eq_true (List.mem_filter.mp hk).2
  rw [M.len] at h1
  obtain ⟨c, hc, hz, hne⟩ := ((rb_bit M he _ (Nat.le_refl _)).2 k).mp h1
  refine Nat.not_le.mp fun z => hne ?_
  have hup := bit_up he hc hz
  rw [high_bit (M.bd c hc) z, high_bit (M.bd _ hup) z]
/-- an entry depends on another one just where a least content holds it -/
theorem dep_iff (M : MsOk m ms) {e k : Nat} (he : e < m) (hk : k < m) : (∃ c : Nat, c < 2 ^ m ∧ bitN (c : Int) e = 0 ∧ bitN (mvf ms (c : Nat)) k ≠ bitN (mvf ms ((c + 2 ^ e : Nat) : Int)) k) ↔ ∃ ct ∈ lcs ms k, e ∈ bts (ct : Int) := by
  constructor
  · rintro ⟨c, hc, hz, hne⟩
    have hup := bit_up he hc hz
    have hbits : ∀ j, bitN ((c + 2 ^ e : Nat) : Int) j = if j = e then 1 else bitN (c : Int) j := fun j => by
      rw [← up_cast]
      exact add_bit e j hz
    have hsub : sub m c (c + 2 ^ e) := fun j _ => by
      rw [hbits j]
      split
      · have := bitN_01 (x := (c : Int)) j
        omega
      · exact Int.le_refl _
    have hle := M.mono c (c + 2 ^ e) hc hup hsub k hk
    have h0 := bit_cases (mvf ms (c : Nat)) k
    have h1 := bit_cases (mvf ms ((c + 2 ^ e : Nat) : Int)) k
    have v0 : bitN (mvf ms (c : Nat)) k = 0 := by omega
    have v1 : bitN (mvf ms ((c + 2 ^ e : Nat) : Int)) k = 1 := by omega
    obtain ⟨ct, hct, hs⟩ := least_below M hk (c + 2 ^ e) hup v1
    obtain ⟨c1, c2, _⟩ := (mem_lcs M).mp hct
    refine ⟨ct, hct, Classical.byContradiction fun hn => ?_⟩
    have hs2 : sub m ct c := fun j hj => by
      have h := hs j hj
      rw [hbits j] at h
      by_cases z : j = e
      · subst z
        rcases bit_cases (ct : Int) j with y | y
        · rw [y]
          exact (bitN_01 _).1
        · exact absurd ((mem_bts M.m8 c1).mpr ⟨hj, y⟩) hn
      · rw [if_neg z] at h
        exact h
    have := M.mono ct c c1 hc hs2 k hk
    omega
  · rintro ⟨ct, hct, he2⟩
    obtain ⟨c1, c2, c3⟩ := (mem_lcs M).mp hct
    have hb := ((mem_bts M.m8 c1).mp he2).2
    have hle := bit_le hb
    have hp : 0 < 2 ^ e := Nat.two_pow_pos e
    refine ⟨ct - 2 ^ e, by omega, ?_, ?_⟩
    · rw [sub_one hb e, if_pos rfl]
    · have e1 : ct - 2 ^ e + 2 ^ e = ct := by omega
      rw [e1, c2, c3 e he2]
      decide
theorem rch_eq (M : MsOk m ms) {cs : List Cell} (nd : cs.Nodup) (hl : cs.length = m) {d : Cell} (hd : d ∈ cs) :
    rchC cs ms (cs.idxOf d) = ((List.range cs.length).filter fun k => (fml cs ms k).any fun t => decide (d ∈ t)).map fun k => cs.getD k (0, 0) := by
  have he : cs.idxOf d < m := by rw [← hl]; exact List.idxOf_lt_length_iff.mpr hd
  unfold rchC
  congr 1
  rw [hl]
  generalize hX : rbF ms (cs.idxOf d) ms.length = X
  have hX2 : ∀ k, bitN X k = 1 ↔ ∃ c : Nat, c < 2 ^ m ∧ bitN (c : Int) (cs.idxOf d) = 0 ∧ bitN (mvf ms (c : Nat)) k ≠ bitN (mvf ms ((c + 2 ^ cs.idxOf d : Nat) : Int)) k := fun k => by
    rw [← hX, M.len]
    exact (rb_bit M he _ (Nat.le_refl _)).2 k
  have key : ∀ k, k < m → (decide (bitN X k = 1) = (fml cs ms k).any fun t => decide (d ∈ t)) := fun k hk => by
    have h1 : bitN X k = 1 ↔ ∃ ct ∈ lcs ms k, cs.idxOf d ∈ bts (ct : Int) := (hX2 k).trans (dep_iff M he hk)
    have pm : (fml cs ms k).Perm ((lcs ms k).map (tmC cs)) := List.mergeSort_perm _ _
    have h2 : ((fml cs ms k).any fun t => decide (d ∈ t)) = true ↔ ∃ ct ∈ lcs ms k, cs.idxOf d ∈ bts (ct : Int) := by
      rw [List.any_eq_true]
      constructor
      · rintro ⟨t, ht, hdt⟩
        obtain ⟨ct, hct, rfl⟩ := List.mem_map.mp (pm.mem_iff.mp ht)
        obtain ⟨j, hj, hje⟩ := List.mem_map.mp (show d ∈ (bts (ct : Int)).map fun k => cs.getD k (0, 0) from of_decide_eq_true hdt)
        have c1 := ((mem_lcs M).mp hct).1
        have hj2 : j < cs.length := by rw [hl]; exact ((mem_bts M.m8 c1).mp hj).1
        refine ⟨ct, hct, ?_⟩
        rw [← hje, List.getD_eq_getElem?_getD, List.getElem?_eq_getElem hj2, Option.getD_some, nd.idxOf_getElem j hj2]
        exact hj
      · rintro ⟨ct, hct, hj⟩
        refine ⟨tmC cs ct, pm.mem_iff.mpr (List.mem_map.mpr ⟨ct, hct, rfl⟩), decide_eq_true ?_⟩
        refine List.mem_map.mpr ⟨cs.idxOf d, hj, ?_⟩
        rw [List.getD_eq_getElem?_getD, List.getElem?_eq_getElem (List.idxOf_lt_length_iff.mpr hd), Option.getD_some, List.getElem_idxOf]
    cases q : (fml cs ms k).any fun t => decide (d ∈ t) with
    | true => exact decide_eq_true (h1.mpr (h2.mp q))
    | false =>
      refine decide_eq_false fun z => ?_
      rw [h2.mpr (h1.mp z)] at q
      cases q
  have hhi : ∀ k, m ≤ k → ¬ bitN X k = 1 := fun k hk z => by
    obtain ⟨c, hc, hz, hne⟩ := (hX2 k).mp z
    exact hne (by rw [high_bit (M.bd c hc) hk, high_bit (M.bd _ (bit_up he hc hz)) hk])
  unfold bts
  have e8 : List.range 8 = List.range m ++ (List.range (8 - m)).map (m + ·) := by
    have := M.m8
    rw [← List.range_add]
    congr 1
    omega
  have e2 : ((List.range (8 - m)).map (m + ·)).filter (fun k => decide (bitN X k = 1)) = [] := by
    rw [List.filter_eq_nil_iff]
    intro k hk
    obtain ⟨j, _, rfl⟩ := List.mem_map.mp hk
    simpa using hhi (m + j) (by omega)
  rw [e8, List.filter_append, e2, List.append_nil]
  exact List.filter_congr fun k hk => key k (List.mem_range.mp hk)
end
end SQ
end
section
set_option maxHeartbeats 400000
namespace SQ
open PySem PySem.Spec PyProof.Rows L2
/-! two tables whose cells stand alike -/
structure KOk (n n0 : Int) (V : Int → Prop) (φ : Int → Int) : Prop where
  mono : ∀ u v, V u → V v → (u ≤ v ↔ φ u ≤ φ v)
  neg : ∀ v, V v → V (n - 1 - v) ∧ φ (n - 1 - v) = n0 - 1 - φ v
  lo : ∀ a, a < 18 → ∀ u v, V u → V v → (endV a n u ≤ v ↔ endV a n0 (φ u) ≤ φ v)
  hi : ∀ a, a < 18 → ∀ u v, V u → V v → (v < endV a n u ↔ φ v < endV a n0 (φ u))
theorem endV_ni {a : Nat} (h : a < 12) (n i j : Int) : endV a n i = endV a n j := by
  have : ∀ b, b < 4 → bsV b n i = bsV b n j := by
    intro b hb
    rcases b with _ | _ | _ | _ | _ <;> first | rfl | omega
  unfold endV
  rw [this (a / 3) (by omega)]
section
variable {n n0 : Int} {V : Int → Prop} {φ : Int → Int}
def Ph (φ : Int → Int) (c : Cell) : Cell := (φ c.1, φ c.2)
def VV (V : Int → Prop) (c : Cell) : Prop := V c.1 ∧ V c.2
theorem KOk.lt (K : KOk n n0 V φ) {u v : Int} (hu : V u) (hv : V v) : u < v ↔ φ u < φ v := by
  have := K.mono v u hv hu
  omega
theorem KOk.eq (K : KOk n n0 V φ) {u v : Int} (hu : V u) (hv : V v) : u = v ↔ φ u = φ v := by
  have h1 := K.mono v u hv hu
  have h2 := K.mono u v hu hv
  omega
theorem Ph_inj (K : KOk n n0 V φ) {c d : Cell} (hc : VV V c) (hd : VV V d) (h : Ph φ c = Ph φ d) : c = d := by
  have h1 := (K.eq hc.1 hd.1).mpr (congrArg Prod.fst h)
  have h2 := (K.eq hc.2 hd.2).mpr (congrArg Prod.snd h)
  exact Prod.ext h1 h2
theorem Ph_le (K : KOk n n0 V φ) {c d : Cell} (hc : VV V c) (hd : VV V d) : leC c d = leC (Ph φ c) (Ph φ d) := by
  unfold leC Ph
  refine decide_eq_decide.mpr ?_
  rw [K.lt hc.1 hd.1, K.eq hc.1 hd.1, K.mono _ _ hc.2 hd.2]
theorem img_V (K : KOk n n0 V φ) {c : Cell} (hc : VV V c) : ∀ d ∈ img n c.1 c.2, VV V d := by
  obtain ⟨h1, h2⟩ := hc
  have n1 := (K.neg _ h1).1
  have n2 := (K.neg _ h2).1
  intro d hd
  simp only [img, List.mem_cons, List.not_mem_nil, or_false] at hd
  rcases hd with rfl | rfl | rfl | rfl | rfl | rfl | rfl | rfl <;> exact ⟨by assumption, by assumption⟩
theorem img_Ph (K : KOk n n0 V φ) {c : Cell} (hc : VV V c) : img n0 (Ph φ c).1 (Ph φ c).2 = (img n c.1 c.2).map (Ph φ) := by
  have n1 := (K.neg _ hc.1).2
  have n2 := (K.neg _ hc.2).2
  simp only [img, Ph, List.map_cons, List.map_nil, n1, n2]
theorem im_Ph (K : KOk n n0 V φ) {c : Cell} (hc : VV V c) {s : Nat} (hs : s < 8) : im n0 (Ph φ c).1 (Ph φ c).2 s = Ph φ (im n c.1 c.2 s) := by
  unfold im
  have hl : s < (img n c.1 c.2).length := hs
  rw [img_Ph K hc, List.getD_eq_getElem?_getD, List.getElem?_map, List.getElem?_eq_getElem hl, List.getD_eq_getElem?_getD, List.getElem?_eq_getElem hl]
  rfl
theorem im_V (K : KOk n n0 V φ) {c : Cell} (hc : VV V c) {s : Nat} (hs : s < 8) : VV V (im n c.1 c.2 s) := img_V K hc _ (img_at s hs)
theorem orb_Ph (K : KOk n n0 V φ) {c : Cell} (hc : VV V c) : orb n0 (Ph φ c).1 (Ph φ c).2 = (orb n c.1 c.2).map (Ph φ) := by
  have hV : ∀ d ∈ orb n c.1 c.2, VV V d := fun d hd => img_V K hc d (orb_mem.mp hd)
  refine eq_of_srt (le := fun a b => leC a b = true) (orb_nd ..) ?_ (fun x => ?_) (orb_srt ..) ?_ fun a b ha hb h1 h2 => leC_anti h1 h2
  · rw [List.Nodup, List.pairwise_map]
    exact (orb_nd n c.1 c.2).imp_of_mem fun {a b} ha hb ne e => ne (Ph_inj K (hV a ha) (hV b hb) e)
  · rw [orb_mem, img_Ph K hc, List.mem_map, List.mem_map]
    constructor
    · rintro ⟨d, hd, e⟩
      exact ⟨d, orb_mem.mpr hd, e⟩
    · rintro ⟨d, hd, e⟩
      exact ⟨d, orb_mem.mp hd, e⟩
  · rw [List.pairwise_map]
    exact (orb_srt n c.1 c.2).imp_of_mem fun {a b} ha hb h => by rw [← Ph_le K (hV a ha) (hV b hb)]; exact h
theorem idx_map {cs : List Cell} {f : Cell → Cell} : ∀ {d : Cell}, d ∈ cs → (∀ a ∈ cs, ∀ b ∈ cs, f a = f b → a = b) → (cs.map f).idxOf (f d) = cs.idxOf d := by
  induction cs with
  | nil => intro d h; cases h
  | cons a cs ih =>
    intro d hd hf
    rw [List.map_cons, List.idxOf_cons, List.idxOf_cons]
    by_cases e : a = d
    · subst e
      simp
    · have e2 : ¬ f a = f d := fun z => e (hf a List.mem_cons_self d hd z)
      have hd2 : d ∈ cs := (List.mem_cons.mp hd).elim (fun z => absurd z.symm e) id
      have := ih hd2 fun x hx y hy => hf x (List.mem_cons_of_mem _ hx) y (List.mem_cons_of_mem _ hy)
      have b1 : (f a == f d) = false := beq_eq_false_iff_ne.mpr e2
      have b2 : (a == d) = false := beq_eq_false_iff_ne.mpr e
      rw [b1, b2, this]
theorem nm_V (K : KOk n n0 V φ) {c : Cell} (hc : VV V c) (a : Nat) (ha : a < 4) : V (nmV a n c.1 c.2) ∧ nmV a n0 (Ph φ c).1 (Ph φ c).2 = φ (nmV a n c.1 c.2) := by
  have n1 := K.neg _ hc.1
  have n2 := K.neg _ hc.2
  rcases a with _ | _ | _ | _ | _
  · exact ⟨hc.1, rfl⟩
  · exact ⟨hc.2, rfl⟩
  · exact ⟨n1.1, n1.2.symm⟩
  · exact ⟨n2.1, n2.2.symm⟩
  · omega
theorem gd_Ph (K : KOk n n0 V φ) {c : Cell} (hc : VV V c) {g : Gd3} (hg : g.ok) : g.v n0 (Ph φ c).1 (Ph φ c).2 = g.v n c.1 c.2 := by
  cases g with
  | none => rfl
  | some g =>
    obtain ⟨a, s, b⟩ := g
    obtain ⟨v1, e1⟩ := nm_V K hc a hg.1
    obtain ⟨v2, e2⟩ := nm_V K hc b hg.2.2.1
    show cmpV s _ _ = cmpV s _ _
    rw [e1, e2]
    have h1 := K.lt v1 v2
    have h2 := K.mono _ _ v1 v2
    have h3 := K.eq v1 v2
    rcases s with _ | _ | _ | s
    · exact decide_eq_decide.mpr h1.symm
    · exact decide_eq_decide.mpr h2.symm
    · exact decide_eq_decide.mpr h3.symm
    · show (!decide _) = (!decide _)
      rw [decide_eq_decide.mpr h3.symm]
theorem ddo_Ph {α : Type} (K : KOk n n0 V φ) {mt jn : α → α → α} {d : α} {D : LD} (hD : D.ok) {cs : List Cell} (hV : ∀ x ∈ cs, VV V x) (hc : CsOk n cs) {c : Cell} (hcm : c ∈ cs) (vs : List α) : ddo mt jn d D (cs.map (Ph φ)) n0 (Ph φ c).1 (Ph φ c).2 vs = ddo mt jn d D cs n c.1 c.2 vs := by
  have hps : D.sp.map (posn (cs.map (Ph φ)) n0 (Ph φ c).1 (Ph φ c).2) = D.sp.map (posn cs n c.1 c.2) := by
    refine List.map_congr_left fun s hs => ?_
    unfold posn
    rw [im_Ph K (hV c hcm) (hD.s8 s hs)]
    exact idx_map (hc.im c hcm s (hD.s8 s hs)) fun a ha b hb e => Ph_inj K (hV a ha) (hV b hb) e
  unfold ddo
  rw [gd_Ph K (hV c hcm) hD.g, hps]
theorem efD_Ph {α : Type} (K : KOk n n0 V φ) {mt jn : α → α → α} {d : α} {cs : List Cell} (hV : ∀ x ∈ cs, VV V x) (hc : CsOk n cs) {c : Cell} (hcm : c ∈ cs) : ∀ {Ds : List LD} (vs : List α), (∀ D ∈ Ds, LD.ok D) → efD mt jn d (cs.map (Ph φ)) n0 (Ph φ c) Ds vs = efD mt jn d cs n c Ds vs
  | [], _, _ => rfl
  | D :: Ds, vs, h => by
    show efD _ _ _ _ _ _ Ds (ddo _ _ _ D _ _ _ _ vs) = efD _ _ _ _ _ _ Ds (ddo _ _ _ D _ _ _ _ vs)
    rw [ddo_Ph K (h D List.mem_cons_self) hV hc hcm, efD_Ph K hV hc hcm _ fun D' h' => h D' (List.mem_cons_of_mem _ h')]
theorem efC_Ph {α : Type} (K : KOk n n0 V φ) {mt jn : α → α → α} {d : α} {cs : List Cell} (hV : ∀ x ∈ cs, VV V x) (hc : CsOk n cs) {Ds : List LD} (hD : ∀ D ∈ Ds, LD.ok D) : ∀ {rs : List Cell} (vs : List α), (∀ x ∈ rs, x ∈ cs) → efC mt jn d (cs.map (Ph φ)) n0 Ds (rs.map (Ph φ)) vs = efC mt jn d cs n Ds rs vs
  | [], _, _ => rfl
  | c :: rs, vs, h => by
    show efC _ _ _ _ _ _ (rs.map (Ph φ)) (efD _ _ _ _ _ _ Ds vs) = efC _ _ _ _ _ _ rs (efD _ _ _ _ _ _ Ds vs)
    rw [efD_Ph K hV hc (h c List.mem_cons_self) vs hD, efC_Ph K hV hc hD _ fun x hx => h x (List.mem_cons_of_mem _ hx)]
theorem inL_Ph (K : KOk n n0 V φ) {l : Lp} (hl : l.ok 18) {u v : Int} (hu : V u) (hv : V v) : inL l n0 (φ u) (φ v) = inL l n u v := by
  unfold inL
  rw [decide_eq_decide.mpr (K.lo l.a hl.1 u v hu hv).symm, decide_eq_decide.mpr (K.hi l.b hl.2 u v hu hv).symm]
theorem inL_ni {l : Lp} (hl : l.ok 12) (n i j x : Int) : inL l n i x = inL l n j x := by
  unfold inL
  rw [endV_ni hl.1 n i j, endV_ni hl.2 n i j]
theorem leR_Ph (K : KOk n n0 V φ) (dO dI : Bool) {c d : Cell} (hc : VV V c) (hd : VV V d) : leR dO dI c d = leR dO dI (Ph φ c) (Ph φ d) := by
  unfold leR Ph
  refine decide_eq_decide.mpr ?_
  have a1 := K.mono _ _ hc.1 hd.1
  have a2 := K.mono _ _ hd.1 hc.1
  have b1 := K.mono _ _ hc.2 hd.2
  have b2 := K.mono _ _ hd.2 hc.2
  unfold sg
  cases dO <;> cases dI <;> simp <;> omega
theorem rds_Ph (K : KOk n n0 V φ) {N : LN} (hN : N.ok) {cs : List Cell} (hV : ∀ x ∈ cs, VV V x) : rds N n0 (cs.map (Ph φ)) = (rds N n cs).map (Ph φ) := by
  have ho : N.o.ok 18 := ⟨by have := hN.1.1; omega, by have := hN.1.2; omega⟩
  unfold rds
  have ef : ((cs.map (Ph φ)).filter fun c => inL N.o n0 0 c.1 && inL N.i n0 c.1 c.2) = (cs.filter fun c => inL N.o n 0 c.1 && inL N.i n c.1 c.2).map (Ph φ) := by
    rw [List.filter_map]
    congr 1
    refine List.filter_congr fun c hc => ?_
    obtain ⟨v1, v2⟩ := hV c hc
    show (inL N.o n0 0 (φ c.1) && inL N.i n0 (φ c.1) (φ c.2)) = _
    rw [inL_ni hN.1 n0 0 (φ c.1), inL_Ph K ho v1 v1, inL_Ph K hN.2.1 v1 v2, inL_ni hN.1 n c.1 0]
  rw [ef]
  symm
  refine List.map_mergeSort fun a ha b hb => ?_
  exact leR_Ph K _ _ (hV a (List.mem_filter.mp ha).1) (hV b (List.mem_filter.mp hb).1)
theorem rnd_Ph (K : KOk n n0 V φ) {N : LN} (hN : N.ok) {cs : List Cell} (hV : ∀ x ∈ cs, VV V x) (hc : CsOk n cs) (x : List Int) : rnd N n0 (cs.map (Ph φ)) x = rnd N n cs x := by
  unfold rnd
  rw [rds_Ph K hN hV]
  exact efC_Ph K hV hc hN.2.2.1 x fun y hy => rds_mem hy
end
end SQ
end
section
set_option maxHeartbeats 4000000
namespace SQ
open PySem PySem.Spec PyProof.Rows L2
/-! a table and the least one with cells of that kind -/
structure Cap (L M n L0 M0 n0 : Int) : Prop where
  a0 : 0 ≤ L
  a1 : L ≤ M
  a2 : 2 * M ≤ n - 1
  h1 : (L = 0 ∧ L0 = 0) ∨ (1 ≤ L ∧ L0 = 1)
  h2 : (M - L = 0 ∧ M0 - L0 = 0) ∨ (M - L = 1 ∧ M0 - L0 = 1) ∨ (2 ≤ M - L ∧ M0 - L0 = 2)
  h3 : (n - 1 - 2 * M = 0 ∧ n0 - 1 - 2 * M0 = 0) ∨ (n - 1 - 2 * M = 1 ∧ n0 - 1 - 2 * M0 = 1) ∨ (n - 1 - 2 * M = 2 ∧ n0 - 1 - 2 * M0 = 2) ∨ (3 ≤ n - 1 - 2 * M ∧ n0 - 1 - 2 * M0 = 3)
def Vq (L M n : Int) : Nat → Int
  | 0 => L
  | 1 => M
  | 2 => n - 1 - M
  | _ => n - 1 - L
theorem bs_lo {L M n L0 M0 n0 : Int} (C : Cap L M n L0 M0 n0) {t : Int} (ht : -1 ≤ t ∧ t ≤ 1) : ∀ b, b < 6 → ∀ p, p < 4 → ∀ q, q < 4 → (bsV b n (Vq L M n p) + t ≤ Vq L M n q ↔ bsV b n0 (Vq L0 M0 n0 p) + t ≤ Vq L0 M0 n0 q) := by
  obtain ⟨a0, a1, a2, h1, h2, h3⟩ := C
  intro b hb p hp q hq
  rcases b with _ | _ | _ | _ | _ | _ | b
  · rcases q with _ | _ | _ | _ | q <;> simp only [bsV, Vq] <;> omega
  · rcases q with _ | _ | _ | _ | q <;> simp only [bsV, Vq] <;> omega
  · rcases q with _ | _ | _ | _ | q <;> simp only [bsV, Vq] <;> omega
  · rcases q with _ | _ | _ | _ | q <;> simp only [bsV, Vq] <;> omega
  · rcases p with _ | _ | _ | _ | p <;> rcases q with _ | _ | _ | _ | q <;> simp only [bsV, Vq] <;> omega
  · rcases p with _ | _ | _ | _ | p <;> rcases q with _ | _ | _ | _ | q <;> simp only [bsV, Vq] <;> omega
  · omega
end SQ
end
section
set_option maxHeartbeats 400000
namespace SQ
open PySem PySem.Spec PyProof.Rows L2
def Vs (L M n : Int) (v : Int) : Prop := ∃ p, p < 4 ∧ v = Vq L M n p
def ph (L M n L0 M0 n0 v : Int) : Int := if v = L then L0 else if v = M then M0 else if v = n - 1 - M then n0 - 1 - M0 else n0 - 1 - L0
theorem ph_at {L M n L0 M0 n0 : Int} (C : Cap L M n L0 M0 n0) : ∀ p, p < 4 → ph L M n L0 M0 n0 (Vq L M n p) = Vq L0 M0 n0 p := by
  obtain ⟨a0, a1, a2, h1, h2, h3⟩ := C
  intro p hp
  unfold ph
  rcases p with _ | _ | _ | _ | p <;> simp only [Vq] <;> split <;> (try split) <;> (try split) <;> first | omega | (rename_i h _; exact absurd rfl h) | (rename_i h; exact absurd rfl h) | simp_all
theorem vq_le {L M n L0 M0 n0 : Int} (C : Cap L M n L0 M0 n0) : ∀ p, p < 4 → ∀ q, q < 4 → (Vq L M n p ≤ Vq L M n q ↔ Vq L0 M0 n0 p ≤ Vq L0 M0 n0 q) := by
  intro p hp q hq
  have := bs_lo C (t := 0) (by omega) 4 (by omega) p hp q hq
  simpa [bsV] using this
theorem kok_of {L M n L0 M0 n0 : Int} (C : Cap L M n L0 M0 n0) : KOk n n0 (Vs L M n) (ph L M n L0 M0 n0) := by
  have lo : ∀ a, a < 18 → ∀ u v, Vs L M n u → Vs L M n v → (endV a n u ≤ v ↔ endV a n0 (ph L M n L0 M0 n0 u) ≤ ph L M n L0 M0 n0 v) := by
    rintro a ha u v ⟨p, hp, rfl⟩ ⟨q, hq, rfl⟩
    rw [ph_at C p hp, ph_at C q hq]
    unfold endV
    exact bs_lo C (t := ((a % 3 : Nat) : Int) - 1) (by omega) (a / 3) (by omega) p hp q hq
  refine ⟨?_, ?_, lo, ?_⟩
  · rintro u v ⟨p, hp, rfl⟩ ⟨q, hq, rfl⟩
    rw [ph_at C p hp, ph_at C q hq]
    exact vq_le C p hp q hq
  · rintro v ⟨p, hp, rfl⟩
    have key : ∃ q, q < 4 ∧ n - 1 - Vq L M n p = Vq L M n q ∧ n0 - 1 - Vq L0 M0 n0 p = Vq L0 M0 n0 q := by
      rcases p with _ | _ | _ | _ | p
      · exact ⟨3, by omega, rfl, rfl⟩
      · exact ⟨2, by omega, rfl, rfl⟩
      · exact ⟨1, by omega, by simp only [Vq]; omega, by simp only [Vq]; omega⟩
      · exact ⟨0, by omega, by simp only [Vq]; omega, by simp only [Vq]; omega⟩
      · omega
    obtain ⟨q, hq, e1, e2⟩ := key
    refine ⟨⟨q, hq, e1⟩, ?_⟩
    rw [e1, ph_at C q hq, ph_at C p hp, e2]
  · intro a ha u v hu hv
    have := lo a ha u v hu hv
    omega
/-- the four numbers of a cell -/
theorem cell_V {n : Int} {c : Cell} : VV (Vs (flo n c.1 c.2) (fmi n c.1 c.2) n) c ∧ ∀ (L0 M0 n0 : Int), Cap (flo n c.1 c.2) (fmi n c.1 c.2) n L0 M0 n0 → (L0, M0) ∈ img n0 (Ph (ph (flo n c.1 c.2) (fmi n c.1 c.2) n L0 M0 n0) c).1 (Ph (ph (flo n c.1 c.2) (fmi n c.1 c.2) n L0 M0 n0) c).2 := by
  obtain ⟨r, cl⟩ := c
  dsimp only
  generalize hL : flo n r cl = L
  generalize hM : fmi n r cl = M
  have key : ∃ p q, p < 4 ∧ q < 4 ∧ r = Vq L M n p ∧ cl = Vq L M n q ∧ ((p = 0 ∧ q = 1) ∨ (p = 0 ∧ q = 2) ∨ (p = 3 ∧ q = 1) ∨ (p = 3 ∧ q = 2) ∨ (p = 1 ∧ q = 0) ∨ (p = 2 ∧ q = 0) ∨ (p = 1 ∧ q = 3) ∨ (p = 2 ∧ q = 3)) := by
    have hr : (r = imin r (n - 1 - r) ∨ r = n - 1 - imin r (n - 1 - r)) := by
      unfold imin
      split <;> omega
    have hc : (cl = imin cl (n - 1 - cl) ∨ cl = n - 1 - imin cl (n - 1 - cl)) := by
      unfold imin
      split <;> omega
    unfold flo at hL
    unfold fmi at hM
    generalize imin r (n - 1 - r) = x at *
    generalize imin cl (n - 1 - cl) = y at *
    by_cases h : x < y
    · rw [if_pos h] at hM
      have hL : x = L := by rw [← hL]; unfold imin; rw [if_neg (by omega)]
      subst hM
      subst hL
      rcases hr with hr | hr <;> rcases hc with hc | hc
      · exact ⟨0, 1, by omega, by omega, hr, hc, by omega⟩
      · exact ⟨0, 2, by omega, by omega, hr, hc, by omega⟩
      · exact ⟨3, 1, by omega, by omega, hr, hc, by omega⟩
      · exact ⟨3, 2, by omega, by omega, hr, hc, by omega⟩
    · rw [if_neg h] at hM
      have hL : y = L := by
        rw [← hL]
        unfold imin
        split <;> omega
      subst hM
      subst hL
      rcases hr with hr | hr <;> rcases hc with hc | hc
      · exact ⟨1, 0, by omega, by omega, hr, hc, by omega⟩
      · exact ⟨1, 3, by omega, by omega, hr, hc, by omega⟩
      · exact ⟨2, 0, by omega, by omega, hr, hc, by omega⟩
      · exact ⟨2, 3, by omega, by omega, hr, hc, by omega⟩
  obtain ⟨p, q, hp, hq, e1, e2, hpq⟩ := key
  refine ⟨⟨⟨p, hp, e1⟩, ⟨q, hq, e2⟩⟩, fun L0 M0 n0 C => ?_⟩
  show (L0, M0) ∈ img n0 (ph L M n L0 M0 n0 r) (ph L M n L0 M0 n0 cl)
  rw [e1, e2, ph_at C p hp, ph_at C q hq]
  have z1 : ∀ x : Int, n0 - 1 - (n0 - 1 - x) = x := fun x => by omega
  rcases hpq with ⟨rfl, rfl⟩ | ⟨rfl, rfl⟩ | ⟨rfl, rfl⟩ | ⟨rfl, rfl⟩ | ⟨rfl, rfl⟩ | ⟨rfl, rfl⟩ | ⟨rfl, rfl⟩ | ⟨rfl, rfl⟩ <;> simp [img, Vq, z1]
theorem cap_of {n : Int} {c : Cell} (h : 0 ≤ c.1 ∧ c.1 < n ∧ 0 ≤ c.2 ∧ c.2 < n) : Cap (flo n c.1 c.2) (fmi n c.1 c.2) n (crn (kd n c.1 c.2)).1 (crn (kd n c.1 c.2)).2 (lsz (kd n c.1 c.2)) := by
  obtain ⟨pm, l1, l2⟩ := four (n := n) (r := c.1) (c := c.2)
  have h0 : 0 ≤ flo n c.1 c.2 := by
    have : flo n c.1 c.2 ∈ [c.1, c.2, n - 1 - c.1, n - 1 - c.2] := pm.mem_iff.mp List.mem_cons_self
    simp only [List.mem_cons, List.not_mem_nil, or_false] at this
    omega
  generalize hL : flo n c.1 c.2 = L at *
  generalize hM : fmi n c.1 c.2 = M at *
  have ek : kd n c.1 c.2 = (imin L 1, imin (M - L) 2, imin (n - 1 - M - M) 3) := by
    unfold kd
    rw [hL, hM]
  rw [ek]
  have i1 : (L = 0 ∧ imin L 1 = 0) ∨ (1 ≤ L ∧ imin L 1 = 1) := by unfold imin; split <;> omega
  have i2 : (M - L = 0 ∧ imin (M - L) 2 = 0) ∨ (M - L = 1 ∧ imin (M - L) 2 = 1) ∨ (2 ≤ M - L ∧ imin (M - L) 2 = 2) := by unfold imin; split <;> omega
  have i3 : (n - 1 - 2 * M = 0 ∧ imin (n - 1 - M - M) 3 = 0) ∨ (n - 1 - 2 * M = 1 ∧ imin (n - 1 - M - M) 3 = 1) ∨ (n - 1 - 2 * M = 2 ∧ imin (n - 1 - M - M) 3 = 2) ∨ (3 ≤ n - 1 - 2 * M ∧ imin (n - 1 - M - M) 3 = 3) := by unfold imin; split <;> omega
  unfold crn lsz
  dsimp only
  generalize imin L 1 = x at *
  generalize imin (M - L) 2 = y at *
  generalize imin (n - 1 - M - M) 3 = z at *
  exact ⟨h0, l1, by omega, i1, by omega, by omega⟩
/-- the kind's table has the same rounds -/
theorem kind_rnd {N : LN} (hN : N.ok) {n : Int} {c : Cell} (h : 0 ≤ c.1 ∧ c.1 < n ∧ 0 ≤ c.2 ∧ c.2 < n) :
    (orb (lsz (kd n c.1 c.2)) (crn (kd n c.1 c.2)).1 (crn (kd n c.1 c.2)).2).length = (orb n c.1 c.2).length ∧ ∀ x, rnd N (lsz (kd n c.1 c.2)) (orb (lsz (kd n c.1 c.2)) (crn (kd n c.1 c.2)).1 (crn (kd n c.1 c.2)).2) x = rnd N n (orb n c.1 c.2) x := by
  have C := cap_of h
  obtain ⟨v, hi⟩ := cell_V (n := n) (c := c)
  have hm := hi _ _ _ C
  have K := kok_of C
  generalize hk : kd n c.1 c.2 = k at *
  have hV : ∀ d ∈ orb n c.1 c.2, VV _ d := fun d hd => img_V K v d (orb_mem.mp hd)
  have eo : orb (lsz k) (crn k).1 (crn k).2 = (orb n c.1 c.2).map (Ph (ph (flo n c.1 c.2) (fmi n c.1 c.2) n (crn k).1 (crn k).2 (lsz k))) := by
    rw [← orb_Ph K v]
    exact orb_orb (orb_mem.mpr hm)
  rw [eo]
  exact ⟨List.length_map .., fun x => rnd_Ph K hN hV (orb_ok ..) x⟩
end SQ
end
section
set_option maxHeartbeats 4000000
namespace SQ
open PySem PySem.Spec PyProof.Rows L2
/-! falls: what the program asks at small sizes, the law at its own -/
def FaI (N : LN) (m i : Int) : Prop := (endV N.o.a m 0 ≤ i ∧ i < endV N.o.b m 0) ∧ endV N.i.a m i < endV N.i.b m i ∧ (i < 0 ∨ m ≤ i ∨ endV N.i.a m i < 0 ∨ m < endV N.i.b m i)
theorem lmax_lt {x y z : Int} : z < lmax x y ↔ z < x ∨ z < y := by
  unfold lmax
  split <;> omega
theorem fal_i {N : LN} {m : Int} (h : falN m N = true) : ∃ i, FaI N m i := by
  unfold falN at h
  obtain ⟨k, hk, h⟩ := List.any_eq_true.mp h
  have hk := List.mem_range.mp hk
  have h1 : endV N.o.a m 0 + (k : Nat) < lmax (endV N.o.a m 0) (endV N.o.b m 0) := by omega
  have h2 := lmax_lt.mp h1
  refine ⟨endV N.o.a m 0 + (k : Nat), ⟨by omega, by omega⟩, ?_⟩
  generalize endV N.o.a m 0 + (k : Nat) = i at *
  unfold falT at h
  simp only [Bool.and_eq_true, Bool.or_eq_true, decide_eq_true_eq, lmax_lt] at h
  omega
theorem out_i {N : LN} {m i : Int} (h : FaI N m i) : outN N m = true := by
  obtain ⟨⟨o1, o2⟩, h1, h2⟩ := h
  have key : ∃ j, endV N.i.a m i ≤ j ∧ j < endV N.i.b m i ∧ outT m (i, j) = true := by
    have ot : ∀ j, (i < 0 ∨ j < 0 ∨ m ≤ i ∨ m ≤ j) → outT m (i, j) = true := by
      intro j hj
      unfold outT imin imax
      simp only [Bool.or_eq_true, decide_eq_true_eq]
      split <;> split <;> omega
    by_cases z : m < endV N.i.b m i
    · exact ⟨endV N.i.b m i - 1, by omega, by omega, ot _ (by omega)⟩
    · exact ⟨endV N.i.a m i, by omega, by omega, ot _ (by omega)⟩
  obtain ⟨j, j1, j2, j3⟩ := key
  unfold outN
  refine List.any_eq_true.mpr ⟨(i, j), ?_, j3⟩
  unfold trns
  exact List.mem_flatMap.mpr ⟨i, stps_mem.mpr ⟨o1, o2⟩, List.mem_map.mpr ⟨j, stps_mem.mpr ⟨j1, j2⟩, rfl⟩⟩
/-- where a round at 6 or 7 stands at a greater size -/
def upI (e k i : Int) : Int := if i ≤ 1 then i else if i ≤ 4 + e then i + k else i + 2 * k
theorem up_cs (e k i : Int) : (i ≤ 1 ∧ upI e k i = i) ∨ (1 < i ∧ i ≤ 4 + e ∧ upI e k i = i + k) ∨ (1 < i ∧ 4 + e < i ∧ upI e k i = i + 2 * k) := by
  unfold upI
  split
  · omega
  · split <;> omega
theorem up_lo {e k t i : Int} (he : e = 0 ∨ e = 1) (hk : 0 ≤ k) (ht : -1 ≤ t ∧ t ≤ 1) : ∀ b, b < 4 → (bsV b (6 + e) 0 + t ≤ i ↔ bsV b (6 + e + 2 * k) 0 + t ≤ upI e k i) := by
  intro b hb
  have hu := up_cs e k i
  generalize upI e k i = u at *
  rcases b with _ | _ | _ | _ | b
  · simp only [bsV]; omega
  · simp only [bsV]; omega
  · simp only [bsV]; omega
  · simp only [bsV]; omega
  · omega
theorem up_in {e k t s i : Int} (he : e = 0 ∨ e = 1) (hk : 0 ≤ k) (ht : -1 ≤ t ∧ t ≤ 1) (hs : -1 ≤ s ∧ s ≤ 1) (hi : -1 ≤ i ∧ i ≤ 6 + e) : ∀ b, b < 6 → ∀ c, c < 6 →
    bsV b (6 + e) i + t < bsV c (6 + e) i + s → bsV b (6 + e + 2 * k) (upI e k i) + t < bsV c (6 + e + 2 * k) (upI e k i) + s := by
  intro b hb c hc
  have hu := up_cs e k i
  generalize upI e k i = u at *
  rcases b with _ | _ | _ | _ | _ | _ | b <;> rcases c with _ | _ | _ | _ | _ | _ | c <;> simp only [bsV] <;> omega
theorem up_ou {e k t i : Int} (he : e = 0 ∨ e = 1) (hk : 0 ≤ k) (ht : -1 ≤ t ∧ t ≤ 1) (hi : -1 ≤ i ∧ i ≤ 6 + e) : ∀ b, b < 6 → 
    (bsV b (6 + e) i + t < 0 → bsV b (6 + e + 2 * k) (upI e k i) + t < 0) ∧ (6 + e < bsV b (6 + e) i + t → 6 + e + 2 * k < bsV b (6 + e + 2 * k) (upI e k i) + t) := by
  intro b hb
  have hu := up_cs e k i
  generalize upI e k i = u at *
  rcases b with _ | _ | _ | _ | _ | _ | b <;> simp only [bsV] <;> omega
theorem fa_up {N : LN} (hN : N.o.ok 12) (hI : N.i.ok 18) {e k i : Int} (he : e = 0 ∨ e = 1) (hk : 0 ≤ k) (h : FaI N (6 + e) i) : FaI N (6 + e + 2 * k) (upI e k i) := by
  obtain ⟨⟨o1, o2⟩, h1, h2⟩ := h
  obtain ⟨na, nb⟩ := hN
  obtain ⟨ia, ib⟩ := hI
  have bd : -1 ≤ i ∧ i ≤ 6 + e := by
    have lo : ∀ b, b < 4 → 0 ≤ bsV b (6 + e) 0 ∧ bsV b (6 + e) 0 ≤ 6 + e := by
      intro b hb
      rcases b with _ | _ | _ | _ | b <;> simp only [bsV] <;> omega
    have l1 := lo (N.o.a / 3) (by omega)
    have l2 := lo (N.o.b / 3) (by omega)
    unfold endV at o1 o2
    omega
  unfold FaI
  unfold endV at o1 o2 h1 h2 ⊢
  have a1 := up_lo (i := i) (t := ((N.o.a % 3 : Nat) : Int) - 1) he hk (by omega) (N.o.a / 3) (by omega)
  have a2 := up_lo (i := i) (t := ((N.o.b % 3 : Nat) : Int) - 1) he hk (by omega) (N.o.b / 3) (by omega)
  have b1 := up_in (i := i) (t := ((N.i.a % 3 : Nat) : Int) - 1) (s := ((N.i.b % 3 : Nat) : Int) - 1) he hk (by omega) (by omega) bd (N.i.a / 3) (by omega) (N.i.b / 3) (by omega) h1
  have c1 := (up_ou (i := i) (t := ((N.i.a % 3 : Nat) : Int) - 1) he hk (by omega) bd (N.i.a / 3) (by omega)).1
  have c2 := (up_ou (i := i) (t := ((N.i.b % 3 : Nat) : Int) - 1) he hk (by omega) bd (N.i.b / 3) (by omega)).2
  have d1 : i < 0 → upI e k i < 0 := fun z => by unfold upI; rw [if_pos (by omega)]; exact z
  have d2 : 6 + e ≤ i → 6 + e + 2 * k ≤ upI e k i := fun z => by unfold upI; rw [if_neg (by omega), if_neg (by omega)]; omega
  refine ⟨⟨a1.mp o1, ?_⟩, b1, ?_⟩
  · exact Int.not_le.mp fun z => Int.not_le.mpr o2 (a2.mpr z)
  · rcases h2 with z | z | z | z
    · exact .inl (d1 z)
    · exact .inr (.inl (d2 z))
    · exact .inr (.inr (.inl (c1 z)))
    · exact .inr (.inr (.inr (c2 z)))
theorem fal_out {N : LN} (hN : N.o.ok 12) (hI : N.i.ok 18) {n : Int} (h : falN (clmp n) N = true) : outN N (far n) = true := by
  obtain ⟨i, hi⟩ := fal_i h
  unfold clmp at hi
  by_cases h7 : 7 < n
  · rw [if_pos h7] at hi
    unfold far
    by_cases hf : n < 14
    · rw [if_pos hf]
      have e1 : n = 6 + n % 2 + 2 * ((n - 6 - n % 2) / 2) := by omega
      have := fa_up hN hI (e := n % 2) (k := (n - 6 - n % 2) / 2) (by omega) (by omega) hi
      rw [← e1] at this
      exact out_i this
    · rw [if_neg hf]
      have := fa_up hN hI (e := n % 2) (k := 4) (by omega) (by omega) hi
      have e1 : 14 + n % 2 = 6 + n % 2 + 2 * 4 := by omega
      rw [e1]
      exact out_i this
  · rw [if_neg h7] at hi
    unfold far
    rw [if_pos (by omega)]
    exact out_i hi
theorem gp_of {N : LN} (hN : N.o.ok 12) (hI : N.i.ok 18) {n : Int} (hn : 1 ≤ n) (h : outN N (far n) = false) : szIn (falL [N]) n = false := by
  have hf : falN (clmp n) N = false := by
    cases e : falN (clmp n) N with
    | false => rfl
    | true =>
      rw [fal_out hN hI e] at h
      cases h
  have e1 : ∀ m : Int, fal [N] m = falN (clmp m) N := fun m => by
    unfold fal
    simp
  have eq : ∀ k : Nat, k < 11 → (falL [N]).getD k false = falN (clmp (1 + (k : Nat))) N := fun k hk => by
    unfold falL
    rw [List.getD_eq_getElem?_getD, List.getElem?_map, List.getElem?_range hk]
    exact e1 _
  rw [szIn_eq hn, eq _ (by split <;> omega)]
  have e2 : clmp (1 + ((if n ≤ 9 then n.toNat - 1 else 9 + (n % 2).toNat : Nat) : Int)) = clmp n := by
    unfold clmp
    by_cases h9 : n ≤ 9
    · rw [if_pos h9]
      have : (1 : Int) + ((n.toNat - 1 : Nat) : Int) = n := by omega
      rw [this]
    · rw [if_neg h9, if_pos (by omega), if_pos (by omega)]
      omega
  rw [e2]
  exact hf
end SQ
end
section
set_option maxHeartbeats 400000
namespace SQ
open PySem PySem.Spec PyProof.Rows L2
/-! the plain facts of the law -/
theorem imin_le {a b c d : Int} (h1 : a ≤ c) (h2 : b ≤ d) : imin a b ≤ imin c d := by
  unfold imin
  split <;> split <;> omega
theorem imax_le {a b c d : Int} (h1 : a ≤ c) (h2 : b ≤ d) : imax a b ≤ imax c d := by
  unfold imax
  split <;> split <;> omega
theorem kd_img {n : Int} {c d : Cell} (h : d ∈ img n c.1 c.2) : kd n d.1 d.2 = kd n c.1 c.2 := by
  have i1 : ∀ x : Int, imin (n - 1 - x) (n - 1 - (n - 1 - x)) = imin x (n - 1 - x) := fun x => by unfold imin; split <;> split <;> omega
  have fs : ∀ x y : Int, flo n x y = flo n y x := fun x y => by unfold flo imin; split <;> split <;> split <;> split <;> omega
  have ms : ∀ x y : Int, fmi n x y = fmi n y x := fun x y => by
    unfold fmi
    generalize imin x (n - 1 - x) = a
    generalize imin y (n - 1 - y) = b
    split <;> split <;> omega
  have f1 : ∀ x y : Int, flo n (n - 1 - x) y = flo n x y := fun x y => by unfold flo; rw [i1]
  have m1 : ∀ x y : Int, fmi n (n - 1 - x) y = fmi n x y := fun x y => by unfold fmi; rw [i1]
  have f2 : ∀ x y : Int, flo n x (n - 1 - y) = flo n x y := fun x y => by rw [fs, f1, fs]
  have m2 : ∀ x y : Int, fmi n x (n - 1 - y) = fmi n x y := fun x y => by rw [ms, m1, ms]
  have k1 : ∀ x y : Int, kd n (n - 1 - x) y = kd n x y := fun x y => by unfold kd; rw [f1, m1]
  have k2 : ∀ x y : Int, kd n x (n - 1 - y) = kd n x y := fun x y => by unfold kd; rw [f2, m2]
  have k3 : ∀ x y : Int, kd n x y = kd n y x := fun x y => by unfold kd; rw [fs, ms]
  simp only [img, List.mem_cons, List.not_mem_nil, or_false] at h
  rcases h with rfl | rfl | rfl | rfl | rfl | rfl | rfl | rfl <;> dsimp only <;> (try simp only [k1, k2]) <;> first | rfl | exact k3 _ _
section
variable {N : LN} {n : Int} {c : Cell}
theorem itr_mono {cs : List Cell} {x y : List Int} (hN : N.ok) (hc : CsOk n cs) (hl : x.length = cs.length) (h : Paired (fun a b : Int => a ≤ b) x y) : ∀ p, Paired (fun a b : Int => a ≤ b) (itr (rnd N n cs) p x) (itr (rnd N n cs) p y)
  | 0 => h
  | p + 1 => pr_rnd (R := fun a b : Int => a ≤ b) hN (fun _ _ _ _ h1 h2 => imin_le h1 h2) (fun _ _ _ _ h1 h2 => imax_le h1 h2) hc.im (itr_mono hN hc hl h p) (by rw [itr_rnd_len, hl])
theorem dec_le {m a b : Nat} (h : sub m a b) : Paired (fun x y : Int => x ≤ y) (dec m a) (dec m b) := by
  refine paired_of (by rw [dec_len, dec_len]) fun i x y h1 h2 => ?_
  have hi : i < m := by
    have := (List.getElem?_eq_some_iff.mp h1).1
    rwa [dec_len] at this
  have e1 := dec_at (b := a) hi
  have e2 := dec_at (b := b) hi
  rw [List.getD_eq_getElem?_getD, h1] at e1
  rw [List.getD_eq_getElem?_getD, h2] at e2
  rw [show x = _ from e1, show y = _ from e2]
  exact h i hi
theorem ms_at (hN : N.ok) (hc : 0 ≤ c.1 ∧ c.1 < n ∧ 0 ≤ c.2 ∧ c.2 < n) (p : Nat) : (msP N n c p).length = 2 ^ (orb n c.1 c.2).length ∧ ∀ b, b < 2 ^ (orb n c.1 c.2).length → mvf (msP N n c p) (b : Nat) = enc (itr (rnd N n (orb n c.1 c.2)) p (dec (orb n c.1 c.2).length b)) := by
  obtain ⟨hl, hr⟩ := kind_rnd hN hc
  have hlen : (movK [N] (kd n c.1 c.2)).length = 2 ^ (orb n c.1 c.2).length := by
    unfold movK
    rw [mov_len, hl]
  refine ⟨by unfold msP; rw [rep_len, hlen], fun b hb => ?_⟩
  unfold msP
  rw [rep_at (by rw [hlen]; exact hb)]
  unfold movK
  rw [itr_mov hN (orb_ok ..) (by rw [hl]; exact hb), hl]
  rw [show rnd N (lsz (kd n c.1 c.2)) (orb (lsz (kd n c.1 c.2)) (crn (kd n c.1 c.2)).1 (crn (kd n c.1 c.2)).2) = rnd N n (orb n c.1 c.2) from funext hr]
theorem all_at {y : List Int} {v : Int} (h : ∀ z ∈ y, z = v) {k : Nat} (hk : k < y.length) : y.getD k 0 = v := by
  rw [List.getD_eq_getElem?_getD, List.getElem?_eq_getElem hk]
  exact h _ (List.getElem_mem hk)
theorem ones_bit : ∀ m, m ≤ 8 → ∀ k, k < m → bitN ((2 ^ m - 1 : Nat) : Int) k = 1 := by decide +kernel
theorem ms_ok (hN : N.ok) (hc : 0 ≤ c.1 ∧ c.1 < n ∧ 0 ≤ c.2 ∧ c.2 < n) (p : Nat) : MsOk (orb n c.1 c.2).length (msP N n c p) := by
  obtain ⟨hl, hat⟩ := ms_at hN hc p
  have C := orb_ok n c.1 c.2
  have h01 : ∀ b, B01 (itr (rnd N n (orb n c.1 c.2)) p (dec (orb n c.1 c.2).length b)) := fun b => itr_all hN C (dec_len ..) (dec_01 _ _) p
  have hln : ∀ b, (itr (rnd N n (orb n c.1 c.2)) p (dec (orb n c.1 c.2).length b)).length = (orb n c.1 c.2).length := fun b => by rw [itr_rnd_len, dec_len]
  have h8 := C.z8
  refine ⟨hl, h8, fun b hb => ?_, fun a b ha hb hs e he => ?_, fun e he => ?_, fun e he => ?_⟩
  · rw [hat b hb]
    have := enc_bd (h01 b)
    rwa [hln b] at this
  · rw [hat a ha, hat b hb, bit_enc e (h01 a), bit_enc e (h01 b)]
    exact pr_get (itr_mono hN C (dec_len ..) (dec_le hs) p) (by rw [hln]; exact he)
  · have z := hat 0 (Nat.two_pow_pos _)
    rw [show ((0 : Nat) : Int) = 0 from rfl] at z
    rw [z, bit_enc e (h01 0)]
    refine all_at (itr_all hN C (dec_len ..) (q := fun z => z = 0) (fun y hy => ?_) p) (by rw [hln]; exact he)
    obtain ⟨k, _, rfl⟩ := List.mem_map.mp hy
    unfold bitN
    simp
  · refine ⟨2 ^ (orb n c.1 c.2).length - 1, Nat.sub_lt (Nat.two_pow_pos _) (by decide), ?_⟩
    rw [hat _ (Nat.sub_lt (Nat.two_pow_pos _) (by decide)), bit_enc e (h01 _)]
    refine all_at (itr_all hN C (dec_len ..) (q := fun z => z = 1) (fun y hy => ?_) p) (by rw [hln]; exact he)
    obtain ⟨k, hk, rfl⟩ := List.mem_map.mp hy
    exact ones_bit _ h8 k (List.mem_range.mp hk)
theorem enc_inj {x y : List Int} (hl : x.length = y.length) (hx : B01 x) (hy : B01 y) (h : enc x = enc y) : x = y := by
  rw [← dec_enc hx, ← dec_enc hy, h, hl]
theorem way_pg (hN : N.ok) {cs : List Cell} (C : CsOk n cs) {x : List Int} (hl : x.length = cs.length) (h01 : B01 x) {k : Nat} (nd : (way (rnd N n cs) x k).Nodup) : k ≤ 256 := by
  have hm : ∀ y ∈ way (rnd N n cs) x k, y.length = cs.length ∧ B01 y := fun y hy => by
    obtain ⟨i, _, rfl⟩ := List.mem_map.mp hy
    exact ⟨by rw [itr_rnd_len, hl], itr_all hN C hl h01 i⟩
  have nd2 : ((way (rnd N n cs) x k).map enc).Nodup := by
    rw [List.Nodup, List.pairwise_map]
    exact nd.imp_of_mem fun {a b} ha hb ne e => ne (enc_inj (by rw [(hm a ha).1, (hm b hb).1]) (hm a ha).2 (hm b hb).2 e)
  have b2 : ∀ k, k ≤ 8 → 2 ^ k ≤ 256 := by decide +kernel
  have hz := b2 _ C.z8
  have := nodup_le (m := (List.range (2 ^ cs.length)).map fun (i : Nat) => (i : Int)) nd2 fun y hy => by
    obtain ⟨z, hz, rfl⟩ := List.mem_map.mp hy
    obtain ⟨h1, h2⟩ := hm z hz
    have hb := enc_bd h2
    rw [h1, pow_cast] at hb
    exact List.mem_map.mpr ⟨(enc z).toNat, List.mem_range.mpr (by omega), by omega⟩
  rw [List.length_map, way_len, List.length_map, List.length_range] at this
  omega
theorem map_idx {cs : List Cell} (nd : cs.Nodup) {y : List Int} (hl : y.length = cs.length) : cs.map (fun d => y.getD (cs.idxOf d) 0) = y := by
  refine List.ext_getElem (by rw [List.length_map, hl]) fun k h1 h2 => ?_
  rw [List.getElem_map, nd.idxOf_getElem k (by rw [List.length_map] at h1; exact h1), List.getD_eq_getElem?_getD, List.getElem?_eq_getElem h2]
  rfl
theorem law_ok (hN : N.ok) (h1 : 1 ≤ n) (hc : 0 ≤ c.1 ∧ c.1 < n ∧ 0 ≤ c.2 ∧ c.2 < n) (ho : outN N (far n) = false) (p : Nat) : LawOk N n c p := by
  have M := ms_ok hN hc p
  have C := orb_ok n c.1 c.2
  have b2 : ∀ k, k ≤ 8 → 2 ^ k ≤ 256 := by decide +kernel
  refine ⟨fun k _ => ⟨mov_ok hN (orb_ok ..), ?_⟩, gp_of hN.1 hN.2.1 h1 ho, fun d hd => kd_img (orb_mem.mp hd), M.len, fun e he => (lcs_ne M he).1, fun e he => (lcs_ne M he).2, fun e he => rb_lt M he, fun d hd => rch_eq M C.nd rfl hd, fun x hx h01 k nd => way_pg hN C hx h01 nd, fun x hx h01 => ?_⟩
  · unfold movK
    rw [mov_len]
    exact b2 _ (orb_len ..)
  · have hb := enc_bd h01
    rw [hx, pow_cast] at hb
    have e1 := (ms_at hN hc p).2 (enc x).toNat (by omega)
    rw [Int.toNat_of_nonneg hb.1, ← hx, dec_enc h01] at e1
    have h01' : B01 (itr (rnd N n (orb n c.1 c.2)) p x) := itr_all hN C hx h01 p
    rw [← map_idx C.nd (y := itr (rnd N n (orb n c.1 c.2)) p x) (by rw [itr_rnd_len, hx])]
    refine List.map_congr_left fun d hd => ?_
    rw [met_eq M C.nd rfl (List.idxOf_lt_length_iff.mpr hd) hx h01, e1, bit_enc _ h01']
end
end SQ
end
section
set_option maxHeartbeats 4000000
namespace SQ
open PySem PySem.Spec PyProof.Rows L2 StX ClX
noncomputable section
/-! ### the facts of the top, out of what the head looks at -/
section
variable {w : World} {h : Heap} {K : PySem.W.Frag} {mg : Str → Option Value}
theorem fact_m (c : He.SaysD fa fn K) {f : He.Fa} (m : f ∈ fa) : f.ok K = true := by
  obtain ⟨i, hi, e⟩ := List.mem_iff_getElem.mp m
  exact c.fact i (f := f) (by rw [List.getElem?_eq_getElem hi, e])
theorem def_m (c : He.SaysD fa fn K) {d : He.DefD} (m : d ∈ fn) : ∃ fd, FunD K d.name d.qual d.params d.body d.scope (d.dvs K) (d.kws K) (He.fAd K d.at_) fd := by
  obtain ⟨i, hi, e⟩ := List.mem_iff_getElem.mp m
  exact c.def_ i (d := d) (by rw [List.getElem?_eq_getElem hi, e])
theorem mem_k {α : Type} {l : List α} {x : α} (i : Nat) (e : l[i]? = some x) : x ∈ l := List.mem_of_getElem? e
theorem in_l {α : Type} {x : α} {l m : List α} (h : x ∈ l) : x ∈ l ++ m := List.mem_append.mpr (.inl h)
theorem in_r {α : Type} {x : α} {l m : List α} (h : x ∈ m) : x ∈ l ++ m := List.mem_append.mpr (.inr h)
theorem in_m {α β : Type} {f : α → β} {x : α} {l : List α} (h : x ∈ l) : f x ∈ l.map f := List.mem_map.mpr ⟨x, h, rfl⟩
theorem tx_def (X : K.In h) (G : h.Ns mainGlobals mg) (c : He.SaysD fa fn K) (i : Nat) {x : Str} {n : Nat} (e : fnL[i]? = some (x, n)) : DefF K mg x x (top n) := by
  have m := mem_k i e
  obtain ⟨fd, F⟩ := def_m c (d := dF x x n) (in_l (in_m (f := fun p : Str × Nat => dF p.1 p.1 p.2) m))
  exact ⟨_, fd, He.glo_ok X G (fact_m c (in_l (in_m (f := fun p : Str × Nat => He.Fa.glo p.1) m))), F⟩
theorem tx_free (X : K.In h) (G : h.Ns mainGlobals mg) (c : He.SaysD fa fn K) (i : Nat) {x : Str} (e : frL[i]? = some x) : mg x = none := He.free_ok X G (fact_m c (in_r (in_l (in_m (f := He.Fa.free) (mem_k i e)))))
theorem tx_cv (X : K.In h) (G : h.Ns mainGlobals mg) (c : He.SaysD fa fn K) (i : Nat) {x : Str} (e : clN[i]? = some x) : mg x = some (.ref (He.ga K x)) := He.glo_ok X G (fact_m c (in_r (in_r (in_l (in_m (f := He.Fa.glo) (mem_k i e))))))
theorem tx_cls (c : He.SaysD fa fn K) (i : Nat) {x : Str} (e : clN[i]? = some x) : Cls K (He.ga K x) := He.cls_ok (fact_m c (in_r (in_r (in_r (in_l (in_m (f := He.Fa.cls) (mem_k i e)))))))
theorem tx_mk (c : He.SaysD fa fn K) (i : Nat) {x : Str} (e : clN[i]? = some x) : Mk K (He.ga K x) (He.ma K (He.ga K x) "__init__") := He.mkr_ok (fact_m c (in_r (in_r (in_r (in_r (in_l (in_m (f := He.Fa.mkr) (mem_k i e))))))))
theorem tx_tb (X : K.In h) (G : h.Ns mainGlobals mg) (c : He.SaysD fa fn K) (i : Nat) {x : Str} (e : tbN[i]? = some x) : mg x = some (.ref (He.ga K x)) := He.glo_ok X G (fact_m c (in_r (in_r (in_r (in_r (in_r (in_l (in_m (f := He.Fa.glo) (mem_k i e)))))))))
theorem tx_na (c : He.SaysD fa fn K) (i : Nat) {x f : Str} (e : naL[i]? = some (x, f)) : NoAttr K (He.ga K x) f := He.noat_ok (fact_m c (in_r (in_r (in_r (in_r (in_r (in_r (in_l (in_m (f := fun p : Str × Str => He.Fa.noat p.1 p.2) (mem_k i e))))))))))
theorem tx_me (c : He.SaysD fa fn K) (i : Nat) {x f : Str} (e : meL[i]? = some (x, f)) : Meth K (He.ga K x) f (He.ma K (He.ga K x) f) := He.meth_ok (fact_m c (in_r (in_r (in_r (in_r (in_r (in_r (in_r (in_l (in_m (f := fun p : Str × Str => He.Fa.meth p.1 p.2) (mem_k i e)))))))))))
theorem tx_re (c : He.SaysD fa fn K) (i : Nat) {f : He.Fa} (e : [He.Fa.glo "within_values", .int "MOST_NESTS" 4, .int "MOST_DEEDS" 6, .int "MOST_SIZE" 1000000000000000000000000000000, .int "MOST_POWER" 1000000000000000000000000000000, .int "DECIDING" 11, .str "OUTER_HEAD" "i from ", .str "INNER_HEAD" "j from "][i]? = some f) : f.ok K = true :=
  fact_m c (in_r (in_r (in_r (in_r (in_r (in_r (in_r (in_r (mem_k i e)))))))))
theorem tx_md (c : He.SaysD fa fn K) (i : Nat) {C m q : Str} {a b : Nat} (e : mdL[i]? = some (dM C m q a b)) : ∃ fd, FunD K m q (defArgs (inClass (top a) b)) (defBody (inClass (top a) b)) (defScope (inClass (top a) b)) [] [] (He.ma K (He.ga K C) m) fd :=
  def_m c (d := dM C m q a b) (in_r (in_l (mem_k i e)))
theorem tx_int (X : K.In h) (G : h.Ns mainGlobals mg) {x : Str} {i : Int} (e : (He.Fa.int x i).ok K = true) : Gv mg x (.int i) := by
  obtain ⟨t, e⟩ := He.int_ok X G e
  exact ⟨_, e, t, rfl⟩
theorem tx_str (X : K.In h) (G : h.Ns mainGlobals mg) {x z : Str} (e : (He.Fa.str x z).ok K = true) : Gv mg x (.str z) := by
  obtain ⟨t, e⟩ := He.str_ok X G e
  exact ⟨_, e, t, rfl⟩
theorem kt_ok {a : Addr} {xs : List V} (e : ktB K a xs = true) : KTup K a xs := by
  unfold ktB at e
  split at e
  · rename_i c d its n sl ho
    obtain ⟨h1, e⟩ := He.ba e
    obtain ⟨h2, h3⟩ := He.ba e
    exact ⟨_, its, n, ho, congrArg Value.type (of_decide_eq_true h1), rfl, of_decide_eq_true h2, He.relAll_ok h3⟩
  · cases e
theorem tab_ok {x : Str} {a n : Nat} (e : tabB K x a n = true) {b : Nat} (hb : b < n) : ∃ t, PySem.W.nsIn K (He.ga K x) (endT (a + b)) = some (some (.ref t)) ∧ KTup K t [.str (bsT ((a + b) / 3)), .int (((a + b) % 3 : Nat) - 1)] := by
  have z := List.all_eq_true.mp e b (List.mem_range.mpr hb)
  split at z
  · rename_i t ht
    exact ⟨t, ht, kt_ok z⟩
  · cases z
theorem is_ok {C : Addr} (e : isB K C = true) : IsC K C := by
  obtain ⟨h1, e⟩ := He.ba e
  obtain ⟨h2, e⟩ := He.ba e
  obtain ⟨h3, e⟩ := He.ba e
  obtain ⟨h4, h5⟩ := He.ba e
  exact ⟨He.eqO_ok h1, He.eqO_ok h2, of_decide_eq_true h3, of_decide_eq_true h4, of_decide_eq_true h5⟩
theorem cm_ok {C : Addr} {m q : Str} {st : Stmt} (e : cmB K C m q = true) (v : fnAt K (cmg K (He.ma K C m)) = fnV m q st) : CMt K C m q st := by
  obtain ⟨h1, e⟩ := He.ba e
  obtain ⟨h2, e⟩ := He.ba e
  obtain ⟨h3, e⟩ := He.ba e
  obtain ⟨h4, e⟩ := He.ba e
  obtain ⟨h5, e⟩ := He.ba e
  obtain ⟨h6, h7⟩ := He.ba e
  have at_ : PySem.W.findCls K (.ref C) (.type "type") m = some (.get (.builtin "classmethod.__get__") (.ref (He.ma K C m)) .none (.ref C)) := by
    split at h3
    · rename_i f a b c hf
      obtain ⟨y1, h3⟩ := He.ba h3
      obtain ⟨y2, h3⟩ := He.ba h3
      obtain ⟨y3, y4⟩ := He.ba h3
      rw [hf, of_decide_eq_true y1, of_decide_eq_true y2, of_decide_eq_true y3, of_decide_eq_true y4]
    · cases h3
  have rc : ∃ rest, PySem.W.recIn K (He.ma K C m) "classmethod" = some (.ref (cmg K (He.ma K C m)) :: rest) := by
    cases y : PySem.W.recIn K (He.ma K C m) "classmethod" with
    | none =>
      rw [y] at h4
      cases h4
    | some l =>
      rw [y] at h4
      cases l with
      | nil => cases h4
      | cons u rest =>
        cases u with
        | ref g =>
          have eg : cmg K (He.ma K C m) = g := by
            unfold cmg
            rw [y]
          exact ⟨rest, by rw [eg]⟩
        | _ => cases h4
  generalize cmg K (He.ma K C m) = g at *
  have F : ∃ fd, FunD K m q (defArgs st) (defBody st) (defScope st) [] [] g fd := by
    unfold fnAt at v
    cases y : K.lookup g with
    | none =>
      rw [y] at h7
      cases h7
    | some o =>
      obtain ⟨oc, od, dt, osl⟩ := o
      rw [y] at h7 v
      cases dt with
      | func fd =>
        obtain ⟨a1, a2, a3, a4, a5, a6, a7, a8, a9, a10, a11, a12, a13, a14, a15⟩ := fd
        obtain ⟨h8, h9⟩ := He.ba h7
        have h10 : a8 = .none := of_decide_eq_true h9
        have v : (some (a1, a2, a3, a4, a5, a6, a7, a15) : He.FnW) = fnV m q st := v
        unfold fnV at v
        simp only [Option.some.injEq, Prod.mk.injEq] at v
        obtain ⟨v1, v2, v3, v4, v5, v6, v7, v8⟩ := v
        subst v1 v2 v3 v4 v5 v6 v7 v8 h10
        exact ⟨_, ⟨oc, od, .none, a9, a10, a11, a12, a13, a14, osl, rfl, y, h8, .inl ⟨rfl, rfl⟩, .inl rfl⟩, h6⟩
      | _ => cases h7
  obtain ⟨fd, F⟩ := F
  exact ⟨.type "type", He.ma K C m, g, fd, ⟨h1, He.eqO_ok h2⟩, ⟨at_, rc, h5⟩, F⟩
def adK (w : World) (K : PySem.W.Frag) : Ad := ⟨He.ga K "Deed", He.ga K "Nest", He.ga K "Program", He.ga K "Sizes", He.ga K "Action", krs K, (tupleKind (mixKind Rw.prog w)).hash⟩
theorem tx_gd {x : Str} (X : K.In h) (G : h.Ns mainGlobals mg) (c : He.SaysT fa fn ts w K) (i j : Nat) {ks : List Str} (e : tbN[i]? = some x) (e2 : ts[j]? = some (fun K => He.ga K x, ks)) {α : Type} {kvs : List (Str × α)} {R : α → V → Prop} {no : List Str}
    (hv : ∀ q ∈ kvs, ∃ u v, PySem.W.nsIn K (He.ga K x) q.1 = some (some u) ∧ RelV v u ∧ R q.2 v) (hn : ∀ k ∈ no, PySem.W.nsIn K (He.ga K x) k = some none) : Gd K w mg x kvs R no := by
  obtain ⟨es, n, D⟩ := c.tab j (t := (fun K => He.ga K x, ks)) e2
  exact ⟨He.ga K x, es, n, tx_tb X G c.d i e, D, hv, hn⟩
theorem tx_vals {x : Str} {kvs : List (Str × Int)} (e : He.valsB K (He.ga K x) (kvs.map fun q => (q.1, .int q.2)) = true) : ∀ q ∈ kvs, ∃ u v, PySem.W.nsIn K (He.ga K x) q.1 = some (some u) ∧ RelV v u ∧ v = .int q.2 := fun q hq => by
  obtain ⟨u, h1, h2⟩ := He.valsB_ok e (List.mem_map.mpr ⟨q, hq, rfl⟩)
  exact ⟨u, _, h1, h2, rfl⟩
theorem tx_of (X : K.In h) (G : h.Ns mainGlobals mg) (s : SaysM w K) : Tx K w mg (adK w K) := by
  obtain ⟨t, ex, cm⟩ := s
  have c := t.d
  obtain ⟨x1, ex⟩ := He.ba ex
  obtain ⟨x2, ex⟩ := He.ba ex
  obtain ⟨x3, ex⟩ := He.ba ex
  obtain ⟨x4, ex⟩ := He.ba ex
  obtain ⟨x5, ex⟩ := He.ba ex
  obtain ⟨x6, ex⟩ := He.ba ex
  obtain ⟨x7, ex⟩ := He.ba ex
  obtain ⟨x8, ex⟩ := He.ba ex
  obtain ⟨x9, ex⟩ := He.ba ex
  obtain ⟨x10, ex⟩ := He.ba ex
  obtain ⟨x11, ex⟩ := He.ba ex
  obtain ⟨x12, ex⟩ := He.ba ex
  obtain ⟨x13, ex⟩ := He.ba ex
  obtain ⟨x14, x15⟩ := He.ba ex
  have cm1 : fnAt K (cmg K (He.ma K (He.ga K "Program") "read")) = fnV "read" "Program.read" (inClass (top 79) 1) := by
    have := congrArg (fun l : List He.FnW => l[0]?) cm
    exact Option.some.inj this
  have cm2 : fnAt K (cmg K (He.ma K (He.ga K "Action") "of")) = fnV "of" "Action.of" (inClass (top 97) 1) := by
    have := congrArg (fun l : List He.FnW => l[1]?) cm
    exact Option.some.inj this
  exact {
    n_len := tx_free X G c 0 (by kernel_rfl)
    n_int := tx_free X G c 1 (by kernel_rfl)
    n_bool := tx_free X G c 2 (by kernel_rfl)
    n_str := tx_free X G c 3 (by kernel_rfl)
    n_list := tx_free X G c 4 (by kernel_rfl)
    n_tuple := tx_free X G c 5 (by kernel_rfl)
    n_dict := tx_free X G c 6 (by kernel_rfl)
    n_set := tx_free X G c 7 (by kernel_rfl)
    n_isinstance := tx_free X G c 8 (by kernel_rfl)
    n_min := tx_free X G c 9 (by kernel_rfl)
    n_max := tx_free X G c 10 (by kernel_rfl)
    n_abs := tx_free X G c 11 (by kernel_rfl)
    n_sum := tx_free X G c 12 (by kernel_rfl)
    n_all := tx_free X G c 13 (by kernel_rfl)
    n_any := tx_free X G c 14 (by kernel_rfl)
    n_sorted := tx_free X G c 15 (by kernel_rfl)
    n_divmod := tx_free X G c 16 (by kernel_rfl)
    n_range := tx_free X G c 17 (by kernel_rfl)
    n_enumerate := tx_free X G c 18 (by kernel_rfl)
    n_zip := tx_free X G c 19 (by kernel_rfl)
    d_bound_value := tx_def X G c 0 (by kernel_rfl)
    d_is_bound := tx_def X G c 1 (by kernel_rfl)
    d_is_loop := tx_def X G c 2 (by kernel_rfl)
    d_goes_down := tx_def X G c 3 (by kernel_rfl)
    d_loop_range := tx_def X G c 4 (by kernel_rfl)
    d_in_loop := tx_def X G c 5 (by kernel_rfl)
    d_is_guard := tx_def X G c 6 (by kernel_rfl)
    d_parsed_deed := tx_def X G c 7 (by kernel_rfl)
    d_number_of := tx_def X G c 8 (by kernel_rfl)
    d_place_cell := tx_def X G c 9 (by kernel_rfl)
    d_holds := tx_def X G c 10 (by kernel_rfl)
    d_do_deed := tx_def X G c 11 (by kernel_rfl)
    d_is_integer := tx_def X G c 12 (by kernel_rfl)
    d_within := tx_def X G c 13 (by kernel_rfl)
    d_is_cell := tx_def X G c 14 (by kernel_rfl)
    d_check_size := tx_def X G c 15 (by kernel_rfl)
    d_check_cell := tx_def X G c 16 (by kernel_rfl)
    d_images_of := tx_def X G c 17 (by kernel_rfl)
    d_found_kind := tx_def X G c 18 (by kernel_rfl)
    d_least_size := tx_def X G c 19 (by kernel_rfl)
    d_corner := tx_def X G c 20 (by kernel_rfl)
    d_falls_at := tx_def X G c 21 (by kernel_rfl)
    d_orbit_rounds := tx_def X G c 22 (by kernel_rfl)
    d_starts := tx_def X G c 23 (by kernel_rfl)
    d_meet_rows := tx_def X G c 24 (by kernel_rfl)
    d_join_rows := tx_def X G c 25 (by kernel_rfl)
    d_moves_from := tx_def X G c 26 (by kernel_rfl)
    d_effect_on := tx_def X G c 27 (by kernel_rfl)
    d_content_after := tx_def X G c 28 (by kernel_rfl)
    d_repeated := tx_def X G c 29 (by kernel_rfl)
    d_bits_of := tx_def X G c 30 (by kernel_rfl)
    d_least_contents := tx_def X G c 31 (by kernel_rfl)
    d_check_program := tx_def X G c 32 (by kernel_rfl)
    d_read_nests := tx_def X G c 33 (by kernel_rfl)
    d_read_nest := tx_def X G c 34 (by kernel_rfl)
    d_check_listed := tx_def X G c 35 (by kernel_rfl)
    d_check_tail := tx_def X G c 36 (by kernel_rfl)
    d_tail_from := tx_def X G c 37 (by kernel_rfl)
    d_goes_on := tx_def X G c 38 (by kernel_rfl)
    d_sizes_where := tx_def X G c 39 (by kernel_rfl)
    d_reached_bits := tx_def X G c 40 (by kernel_rfl)
    d_law_purl := tx_def X G c 41 (by kernel_rfl)
    d_law_dig := tx_def X G c 42 (by kernel_rfl)
    d_law_spots := tx_def X G c 43 (by kernel_rfl)
    d_law_cells := tx_def X G c 44 (by kernel_rfl)
    d_law_end := tx_def X G c 45 (by kernel_rfl)
    d_law_endtext := tx_def X G c 46 (by kernel_rfl)
    d_law_loop := tx_def X G c 47 (by kernel_rfl)
    d_law_looptext := tx_def X G c 48 (by kernel_rfl)
    d_law_deed := tx_def X G c 49 (by kernel_rfl)
    d_law_deedtext := tx_def X G c 50 (by kernel_rfl)
    d_law_nest := tx_def X G c 51 (by kernel_rfl)
    d_law_plan := tx_def X G c 52 (by kernel_rfl)
    d_law_text := tx_def X G c 53 (by kernel_rfl)
    d_law_steps := tx_def X G c 54 (by kernel_rfl)
    d_law_turns := tx_def X G c 55 (by kernel_rfl)
    d_law_out := tx_def X G c 56 (by kernel_rfl)
    d_law_holds := tx_def X G c 57 (by kernel_rfl)
    d_law_do := tx_def X G c 58 (by kernel_rfl)
    d_law_orbit := tx_def X G c 59 (by kernel_rfl)
    d_law_near := tx_def X G c 60 (by kernel_rfl)
    d_law_outfar := tx_def X G c 61 (by kernel_rfl)
    d_law_far := tx_def X G c 62 (by kernel_rfl)
    d_law_spot := tx_def X G c 63 (by kernel_rfl)
    d_law_after := tx_def X G c 64 (by kernel_rfl)
    d_law_met := tx_def X G c 65 (by kernel_rfl)
    d_law_right := tx_def X G c 66 (by kernel_rfl)
    d_law := tx_def X G c 67 (by kernel_rfl)
    d_within_values := by
      obtain ⟨fd, F⟩ := def_m c (d := dF "within_values" "within" 47) (in_r (in_r (mem_k 0 rfl)))
      exact ⟨_, fd, He.glo_ok X G (tx_re c 0 (f := .glo "within_values") rfl), F⟩
    g_MOST_NESTS := tx_int X G (tx_re c 1 rfl)
    g_MOST_DEEDS := tx_int X G (tx_re c 2 rfl)
    g_MOST_SIZE := tx_int X G (tx_re c 3 rfl)
    g_MOST_POWER := tx_int X G (tx_re c 4 rfl)
    g_DECIDING := tx_int X G (tx_re c 5 rfl)
    g_OUTER_HEAD := tx_str X G (tx_re c 6 rfl)
    g_INNER_HEAD := tx_str X G (tx_re c 7 rfl)
    g_NUMBERS := ⟨_, tx_tb X G c 0 rfl, kt_ok x1⟩
    g_SIGNS := ⟨_, tx_tb X G c 1 rfl, kt_ok x2⟩
    g_PLACES := ⟨_, tx_tb X G c 2 rfl, kt_ok x3⟩
    g_KINDS := ⟨_, tx_tb X G c 3 rfl, kt_ok x4⟩
    krl := of_decide_eq_true x5
    krk := fun i a e => by
      have hi : i < 24 := by
        have h1 := (List.getElem?_eq_some_iff.mp e).1
        have h2 : (krs K).length = 24 := of_decide_eq_true x5
        rw [← h2]
        exact h1
      have z := List.all_eq_true.mp x6 i (List.mem_range.mpr hi)
      have e : (krs K)[i]? = some a := e
      rw [e] at z
      exact kt_ok z
    hs := fun P => rfl
    g_OUTER := tx_gd X G t 4 0 rfl rfl (fun q hq => by
      obtain ⟨b, hb, rfl⟩ := List.mem_map.mp hq
      obtain ⟨u, h1, h2⟩ := tab_ok x7 (List.mem_range.mp hb)
      rw [Nat.zero_add] at h1 h2
      exact ⟨_, .ref u, h1, rfl, u, rfl, h2⟩) (fun k hk => by
      obtain ⟨b, hb, rfl⟩ := List.mem_map.mp hk
      exact He.eqO_ok (List.all_eq_true.mp x9 b hb))
    g_INNER := tx_gd X G t 5 1 rfl rfl (fun q hq => by
      obtain ⟨b, hb, rfl⟩ := List.mem_map.mp hq
      obtain ⟨u, h1, h2⟩ := tab_ok x8 (List.mem_range.mp hb)
      exact ⟨_, .ref u, h1, rfl, u, rfl, h2⟩) (fun k hk => nomatch hk)
    g_FEWEST := tx_gd X G t 6 2 rfl rfl (tx_vals x10) (fun k hk => nomatch hk)
    g_MOST := tx_gd X G t 7 3 rfl rfl (tx_vals x11) (fun k hk => nomatch hk)
    v_Deed := tx_cv X G c 0 rfl
    c_Deed := tx_cls c 0 rfl
    na_Deed_word := tx_na c 0 (by kernel_rfl)
    na_Deed_spots := tx_na c 1 (by kernel_rfl)
    na_Deed_guard := tx_na c 2 (by kernel_rfl)
    i_Deed := by
      obtain ⟨fd, F⟩ := tx_md c 4 (C := "Deed") (m := "__init__") (q := "Deed.__init__") (a := 22) (b := 0) (by kernel_rfl)
      exact ⟨_, fd, tx_mk c 0 rfl, F⟩
    v_Nest := tx_cv X G c 1 rfl
    c_Nest := tx_cls c 1 rfl
    na_Nest_over := tx_na c 3 (by kernel_rfl)
    na_Nest_below := tx_na c 4 (by kernel_rfl)
    na_Nest_texts := tx_na c 5 (by kernel_rfl)
    na_Nest_parsed := tx_na c 6 (by kernel_rfl)
    i_Nest := by
      obtain ⟨fd, F⟩ := tx_md c 5 (C := "Nest") (m := "__init__") (q := "Nest.__init__") (a := 78) (b := 0) (by kernel_rfl)
      exact ⟨_, fd, tx_mk c 1 rfl, F⟩
    v_Program := tx_cv X G c 2 rfl
    c_Program := tx_cls c 2 rfl
    na_Program_parts := tx_na c 7 (by kernel_rfl)
    i_Program := by
      obtain ⟨fd, F⟩ := tx_md c 6 (C := "Program") (m := "__init__") (q := "Program.__init__") (a := 79) (b := 0) (by kernel_rfl)
      exact ⟨_, fd, tx_mk c 2 rfl, F⟩
    v_Sizes := tx_cv X G c 3 rfl
    c_Sizes := tx_cls c 3 rfl
    na_Sizes_tails := tx_na c 8 (by kernel_rfl)
    na_Sizes_few := tx_na c 9 (by kernel_rfl)
    m_Sizes_contains := by
      obtain ⟨fd, F⟩ := tx_md c 0 (C := "Sizes") (m := "__contains__") (q := "Sizes.__contains__") (a := 90) (b := 5) (by kernel_rfl)
      exact ⟨_, fd, tx_me c 0 (by kernel_rfl), F⟩
    v_Action := tx_cv X G c 4 rfl
    c_Action := tx_cls c 4 rfl
    na_Action_moves := tx_na c 10 (by kernel_rfl)
    na_Action_gaps := tx_na c 11 (by kernel_rfl)
    i_Action := by
      obtain ⟨fd, F⟩ := tx_md c 7 (C := "Action") (m := "__init__") (q := "Action.__init__") (a := 97) (b := 0) (by kernel_rfl)
      exact ⟨_, fd, tx_mk c 4 rfl, F⟩
    m_Action_result := by
      obtain ⟨fd, F⟩ := tx_md c 1 (C := "Action") (m := "result") (q := "Action.result") (a := 97) (b := 5) (by kernel_rfl)
      exact ⟨_, fd, tx_me c 1 (by kernel_rfl), F⟩
    m_Action_reaches := by
      obtain ⟨fd, F⟩ := tx_md c 2 (C := "Action") (m := "reaches") (q := "Action.reaches") (a := 97) (b := 6) (by kernel_rfl)
      exact ⟨_, fd, tx_me c 2 (by kernel_rfl), F⟩
    m_Action_times := by
      obtain ⟨fd, F⟩ := tx_md c 3 (C := "Action") (m := "times") (q := "Action.times") (a := 97) (b := 8) (by kernel_rfl)
      exact ⟨_, fd, tx_me c 3 (by kernel_rfl), F⟩
    i_Sizes := by
      obtain ⟨fd, F⟩ := def_m c (d := dZ) (in_r (in_r (mem_k 1 rfl)))
      exact ⟨_, fd, szK K, tx_mk c 3 rfl, F⟩
    is_Nest := is_ok x12
    is_Program := is_ok x13
    cm_read := cm_ok x14 cm1
    cm_of := cm_ok x15 cm2 }
end
end
end SQ
end
section
set_option maxHeartbeats 4000000
namespace SQ
open PySem PySem.Spec PyProof.Rows L2 StX ClX
/-! ### the law's promise -/
def spLaw (K : PySem.W.Frag) (A : Ad) : Sp := fun vs H Q E => ∃ xs : List Int, xs.length ≤ 1000 ∧ SpF [rKT A (rSc K xs)] [] [] (is (.bl true)) vs H Q E
theorem sp_in {K : PySem.W.Frag} {A : Ad} {H : Hp} {a : Addr} {ns : List Int} (hl : ns.length ≤ 63) (hS : SqL K H a (ns.map V.int)) : spLaw K A [.ref a] H (fun v _ => v = .bl true) fun _ _ _ => False := by
  have sv : Same H (vis ⟨H, fun _ => False, fun _ => False⟩ [] H) := fun b u e => hid_some.mpr ⟨fun z => z.elim id (fun z => nomatch z), e⟩
  refine ⟨ns, by omega, ⟨H, fun _ => False, fun _ => False⟩, ⟨⟨rfl, fun i P e => ?_⟩, (fun a C h => nomatch h), List.nodup_nil, fun b u _ e => e, fun b z => z.elim, (fun b z => nomatch z)⟩, fun v H' G' s' S b => b.eq⟩
  cases i with
  | zero =>
    cases e
    exact ⟨_, rfl, fun H2 e2 => ⟨fun H3 e3 => ⟨a, rfl, sql_mono ((sv.trans e2).trans e3) hS⟩, trivial⟩⟩
  | succ i => simp at e
theorem fnok_any {P : Program} {w : World} {K : PySem.W.Frag} {mg : Str → Option Value} {base : Heap} {A : Ad} (T : Tx K w mg A) {f : Addr} {fd : FuncData} (F : FunD K "law" "law" (defArgs (top 127)) (defBody (top 127)) (defScope (top 127)) [] [] f fd) :
    FnOk P w K mg base CX0 11 f fd ["_law_script"] (spLaw K A) := by
  have G : ∀ xs : List Int, xs.length ≤ 1000 → FnOk P w K mg base CX0 11 f fd ["_law_script"] (SpF [rKT A (rSc K xs)] [] [] (is (.bl true))) := fun xs hx => fnok_law T F hx fun N n c p hN h1 _ hc ho _ => law_ok hN h1 hc ho p
  exact ⟨fun vs H Q E ⟨xs, hx, h⟩ => (G xs hx).len vs H Q E h, fun A' outer s H args us vs Q E hr e0 hb hv ⟨xs, hx, h⟩ => (G xs hx).run A' outer s H args us vs Q E hr e0 hb hv h⟩
end SQ
open PySem PySem.W PySem.Calls PyProof.Rows
theorem PySem.Challenge.cw_squareloops_k40_whole_powers_far_holds : PySem.Challenge.rw_squareloops_k40_whole_powers_far.Holds := by
  w_on; o_law
  refine HandSHeadRun.head_any (r := OpenLaw.row PySem.Challenge.rw_squareloops_k40_whole_powers_far) (q := SQ.qv) (H := SQ.hk) (ob := SQ.obS) (M := 13000) (loose := SQ.loo) (d := HandSHeadRun.topDef (OpenLaw.row PySem.Challenge.rw_squareloops_k40_whole_powers_far).prog 127) (kwd := []) SQ.obS_eq
    (by kernel_rfl) (fun s => by kernel_rfl) SQ.run (by kernel_rfl) (by kernel_rfl) (by kernel_rfl) (by rfl) (by first | assumption | decide +kernel) (by decide +kernel) ⟨rfl, rfl, rfl, rfl, rfl, by decide +kernel⟩ ?hw ?hc
  case hw => w_witness2
  case hc =>
    refine L2.walk_ofE (l := PySem.Challenge.rw_squareloops_k40_whole_powers_far) (n := 63) (k := 11) (x := "_law_script") (CX := L2.CX0) rfl (by decide) (by kernel_rfl) ⟨rfl, by decide, by decide⟩ ?F (fun _ _ _ _ z => z)
    intro w mg fa h Y G hmg0
    obtain ⟨K, KX, c⟩ := Y
    have hmg : mg ("law" : PySem.Str) = some (.ref fa) := by
      have e : (HandSHeadRun.topDef (OpenLaw.row PySem.Challenge.rw_squareloops_k40_whole_powers_far).prog 127).name = ("law" : PySem.Str) := by kernel_rfl
      rw [← e]
      exact hmg0
    have T := SQ.tx_of KX G c
    obtain ⟨f, fd, hf, F⟩ := T.d_law
    have e := hmg.symm.trans hf
    cases e
    have b := L2.FunD.bindsA (ps := ["_law_script"]) F fun _ _ _ _ _ _ us hl => match us, hl with | [_], _ => rfl
    exact ⟨K, fd, SQ.spLaw K (SQ.adK w K), KX, fun s v => b s [v] rfl, fun H a ns hl _ hS => SQ.sp_in hl hS, fun base _ _ => SQ.fnok_any T F⟩
end
